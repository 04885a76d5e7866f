/- Lemmas for the proof. No condition. -/
import Derived.Test.YtddblpggomphpaaGreatDoorXB01
import Derived.Test.YtddblpggomphpaaGreatDoorXB02
import Derived.Test.YtddblpggomphpaaGreatDoorXB03
import Derived.Test.YtddblpggomphpaaGreatDoorXB04
import Derived.Test.YtddblpggomphpaaGreatDoorXB05
import Derived.RangeFuncNested
import Derived.RangeFuncBound
import Derived.RangeFuncCalls
import Derived.RangeFuncFrom
set_option linter.unusedVariables false
set_option linter.unusedSimpArgs false
set_option maxRecDepth 100000
set_option maxHeartbeats 16000000
namespace Go.Proofs.matrix
open Go Go.RowKit Go.SW Go.Num Go.Mem Go.Proofs Go.Dec Go.dB
theorem nR (v:Value) (l:List Fr) (T:TypeId) (w:World) (h:jI w T v l) :
  Calls Tryz.prog 77 #[v] w (fun e w'=>e= .returned (.int .i64 (dP l))∧Below w.heap.size w w'):=by
 obtain ⟨a,cap,rfl,hc1,hc2,hread⟩:=h.read
 have H:=zh hread
 clear h hread
 go_enter Tryz.func77,Tryz.ntmps77
 go_wp2_with fail
 go_loopw [7] (fun iv wr=>∃ k:Nat,iv= .int .i64 (k:Int)∧k≤l.length∧Hid (∀ j (h:j<l.length),j<k→(rd l[j]).isSome=true)∧Below w.heap.size w wr) (fun iv _=>l.length - (intOf iv).toNat)
 case atStart=>exact ⟨0,rfl,by omega,zh (fun j _ h=>by omega),Below.refl _ _⟩
 case round =>
  obtain ⟨k,rfl,hk,HK,hb⟩:=hrel
  rcases Nat.lt_or_ge k l.length with hlt|hge
  ·obtain ⟨b,off,rfl,hbl,hx1,hx2⟩:=H.out k hlt
   have hc1:=(hb.cell (p:=⟨b,off+k*2,none⟩) hbl).trans hx1
   have hc2:=(hb.cell (p:=⟨b,off+k*2+1,none⟩) hbl).trans hx2
   clear hx1 hx2
   have hck:=dJ.qH l[k]
   generalize hlk:l[k]=lk at *
   obtain ⟨s,t⟩:=lk
   cases hv:(rd ⟨s,t⟩).isSome with
   | true =>
    rw [tF hv] at hck
    have rV:Hid (∀ w,Calls Tryz.prog 81 #[.agg #[.string s,.string t]] w (fun e w'=>e= .returned (.int .i64 0)∧Below w.heap.size w w')):=zh hck
    have HLK:=zh hlk
    have HV:=zh hv
    clear hck hlk hv
    go_wp2_with fail
    refine (rV.out _).mono ?_
    rintro e v1 ⟨rfl,hc1⟩
    go_wp2_with fail
    go_roundw
    case rel =>
     refine ⟨k+1,by go_num,by omega,zh fun j hj hjk=>?_,Bt hb aA⟩
     rcases Nat.lt_or_ge j k with h|h
     ·exact HK.out j hj h
     ·obtain rfl:j=k:=by omega
      rw [HLK.out]
      exact HV.out
    case measure=>exact zM
   | false =>
    rw [LV hv] at hck
    have rV:Hid (∀ w,Calls Tryz.prog 81 #[.agg #[.string s,.string t]] w (fun e w'=>e= .returned (.int .i64 20)∧Below w.heap.size w w')):=zh hck
    have hno:dP l=20:=by
     unfold dP
     rw [if_neg]
     intro h
     have:=List.all_eq_true.1 h l[k] (List.getElem_mem _)
     rw [hlk,hv] at this
     cases this
    have QO:=zh hno
    clear hck hlk hv hno
    go_wp2_with fail
    refine (rV.out _).mono ?_
    rintro e v1 ⟨rfl,hc1⟩
    go_wp2_with fail
    go_ret
    exact ⟨by rw [QO.out];rfl,Bt hb aA⟩
  ·have hyes:dP l=0:=by
    unfold dP
    rw [if_pos]
    rw [List.all_eq_true]
    intro x hx
    obtain ⟨j,hj,rfl⟩:=List.getElem_of_mem hx
    exact HK.out j hj zo
   have Dr:=zh hyes
   clear hyes
   obtain rfl:k=l.length:=by omega
   go_wp2_with fail
   go_ret
   exact ⟨by rw [Dr.out];rfl,hb⟩
end Go.Proofs.matrix
namespace Go.Proofs.matrix
open Go Go.RowKit Go.Shelf Go.SW Go.Num Go.Mem Go.Proofs Go.Dec Go.dB
attribute [local go_sem] Oper.semAt_some
theorem dG {W W':World} (h:Below W.heap.size W W'):KeepsOthers W W' :=
 ⟨h.size,fun k o hk _=>(h.block k (Array.getElem?_eq_some_iff.1 hk).1).trans hk⟩
theorem dQ {W W':World} {row:Option Nat} {b:Nat} {cs:Array Value} {T:TypeId} (h:aB W b cs T) (hg:W.grownBy W' row) (hr:∀ r,row=some r→∃ o:Obj,W.heap[r]? =some o∧o.isCells=false):aB W' b cs T:=by
 unfold aB at *
 rw [hg.block b (Array.getElem?_eq_some_iff.1 h).1 ?_]
 ·exact h
 ·intro e
  obtain ⟨o,ho,hc⟩:=hr b e.symm
  rw [h] at ho
  cases ho
  cases hc
theorem LX (b off cap n:Nat) (m:List (List Fr)) (rs:List Value) (a0:Option Addr) (n0 cap0:Nat) (w:World) (hn:rs.length=n) (h1:1≤n) (h4:n≤4) (hm:rs.length=m.length) (hR:Row w 56 (.slice (some ⟨b,off,none⟩) n cap) rs)
  (hc:w.cell? ⟨b,off,none⟩=some (.slice a0 n0 cap0)) (k1:1≤n0) (k4:n0≤4)
  (hF:∀ i (h:i<rs.length) (h':i<m.length),jI w 36 rs[i] m[i]) :
  Calls Tryz.prog 50 #[.slice (some ⟨b,off,none⟩) n cap] w fun e w'=>e= .returned (.int .i64 (if m.all (fun r=>r.length == n0&&dP r == 0) then 0 else 50))∧Below w.heap.size w w':=by
 have lb:b<w.heap.size:=by
  rcases hR.cases with ⟨h,_⟩|⟨b',off',cap',arr,h,_,_,h3,_⟩
  ·cases h
  ·simp only [Value.slice.injEq,Option.some.injEq,Addr.mk.injEq,and_true] at h
   rw [h.1.1];exact h3.lt
 have lb1:b<w.heap.size+1:=by omega
 have q1:decide ((n:Int)<1)=false:=by simp;omega
 have q2:decide ((4:Int)<(n:Int))=false:=by simp;omega
 have q3:decide ((n0:Int)<1)=false:=by simp;omega
 have q4:decide ((4:Int)<(n0:Int))=false:=by simp;omega
 have h0n:0<n:=by omega
 have HR:=zh hR
 have HF:=zh hF
 have HM:=zh hm
 have HN:=zh hn
 clear hR hF hm hn
 obtain ⟨z,Ez⟩:∃ y:Int,Hid ((if m.all (fun r=>r.length == n0&&dP r == 0) then 0 else 50)=y):=⟨_,zh rfl⟩
 rw [Ez.out]
 refine (callsIn_wide (n:=3)).1 ?_
 refine callsIn_of_wp_marks Tryz.func50 rfl trivial ?_ rfl
 simp only [Tryz.ntmps50,List.size_toArray,List.length_cons,List.length_nil,Nat.reduceAdd,Nat.reduceSub,Array.replicate_succ,Array.replicate_zero,List.push_toArray,List.append_toArray,List.nil_append,List.cons_append]
 gi_wp2_with (refine ⟨trivial,?_⟩;gi_at_call 112;refine (Ao Fence.wide 2 trivial rfl _ _ _ _).mono ?_;rintro e w' ⟨rfl,rfl⟩)
 have hB0:Below w.heap.size w (((w.alloc (.cells #[.slice (some ⟨b,off,none⟩) n cap] 44)).alloc (.cells #[.int .i64 0] 45)).alloc (.cells #[.slice (some ⟨b,off,none⟩) n cap] 44)):=aA
 have hbx0:aB (((w.alloc (.cells #[.slice (some ⟨b,off,none⟩) n cap] 44)).alloc (.cells #[.int .i64 0] 45)).alloc (.cells #[.slice (some ⟨b,off,none⟩) n cap] 44)) w.heap.size #[.slice (some ⟨b,off,none⟩) n cap] 44:=aL
 have zI:aB (((w.alloc (.cells #[.slice (some ⟨b,off,none⟩) n cap] 44)).alloc (.cells #[.int .i64 0] 45)).alloc (.cells #[.slice (some ⟨b,off,none⟩) n cap] 44)) (w.heap.size+1) #[.int .i64 0] 45:=aL
 have zH:aB (((w.alloc (.cells #[.slice (some ⟨b,off,none⟩) n cap] 44)).alloc (.cells #[.int .i64 0] 45)).alloc (.cells #[.slice (some ⟨b,off,none⟩) n cap] 44)) (w.heap.size+1+1) #[.slice (some ⟨b,off,none⟩) n cap] 44:=aL
 refine wpIn_rangeFunc_ownF (α:=Fin rs.length) rfl zo (gf:=164) (lb:=#[.pointer (some ⟨w.heap.size+1+1,0,none⟩)]) rfl trivial (enters_of Tryz.func164 zk rfl)
  (sj Fence.wide 2 trivial rfl zo (w.heap.size+1+1) w.heap.size _ rs w _ zH.lt hB0.size ((zH.cell 0).trans rfl) HR.out (Nat.le_refl _) hB0) belowK_t (belowK_b hB0.size) (Below.refl _ _) (fun _=>rfl)
  (fun pre W=>(Hid (∀ x∈pre,((m.getD x.1 []).length == n0&&dP (m.getD x.1 []) == 0)=true)∧aB W w.heap.size #[.slice (some ⟨b,off,none⟩) n cap] 44∧aB W (w.heap.size+1) #[.int .i64 0] 45)∧Below w.heap.size w W)
  (fun c pre W=>(c= .ret∧Hid (∃ x:Fin rs.length,((m.getD x.1 []).length == n0&&dP (m.getD x.1 []) == 0)=false)∧aB W (w.heap.size+1) #[.int .i64 50] 45)∧Below w.heap.size w W)
  (OwnFrom.and (Own.from (fun s A B row hs hg hr=>⟨hs.1,dQ hs.2.1 hg hr,dQ hs.2.2 hg hr⟩) _) (ownFrom_below (Nat.le_refl _) hB0.size))
  (fun c=>OwnFrom.and (Own.from (fun s A B row hs hg hr=>⟨hs.1,hs.2.1,dQ hs.2.2 hg hr⟩) _) (ownFrom_below (Nat.le_refl _) hB0.size))
  ⟨⟨zh zi,hbx0,zI⟩,hB0⟩ ?a1 ?assign ?body ?done ?stop
 case assign =>
  intro l x W K hK
  unfold enc
  gi_wp2
  exact hK
 case body =>
  rintro l pre x W ⟨⟨hp,hb0,hb1⟩,hB⟩ _
  have hxm:x.1<m.length:=HM.out ▸ x.2
  have hgd:m.getD x.1 []=m[x.1]:=by simp [hxm]
  have hfr:=HF.out x.1 x.2 hxm
  obtain ⟨a',cap',hre,k5,k6, -⟩:=hfr.read
  have wD:=zh (hfr.later hB)
  have cm:=(hB.cell (p:=⟨b,off,none⟩) lb).trans hc
  have c0:=hb0.cell
  have f1:=hb1.free
  have c1:=hb1.cell
  have e5:∀ y,m.getD x.1 []=y→((y.length == n0&&dP y == 0)=((m.getD x.1 []).length == n0&&dP (m.getD x.1 []) == 0)):=fun y h=>by rw [h]
  have HE5:=zh (e5 _ hgd)
  clear hfr e5 hgd hc
  generalize rs[x.1]=rx at *
  subst hre
  generalize hmx:m[x.1]=mx at *
  have HMX:=zh hmx
  clear hmx
  by_cases hl:mx.length=n0
  ·have b1:((mx.length:Int) != (n0:Int))=false:=by simp [hl]
   have hch:dP mx=0∨dP mx=20:=by unfold dP;split<;>simp
   have HL:=zh hl
   have rV:=zh (fun W h=>nR (.slice a' mx.length cap') mx 36 W h)
   clear hl
   rcases hch with hch|hch
   ·have UE:=zh hch
    clear hch
    rw [UE.out] at rV
    gi_wp2_with (refine ⟨trivial,?_⟩;gi_at_call 77;refine (CallsIn.inRound l (callsIn_wide.2 (rV.out _ wD.out))).mono ?_;rintro e w1 ⟨rfl,hc1⟩)
    refine ⟨dG hc1,hc1.mono hB.size,⟨⟨zh fun y hy=>?_,hb0.later hc1,hb1.later hc1⟩,hB.trans (hc1.mono hB.size)⟩⟩
    rcases List.mem_append.1 hy with h|h
    ·exact hp.out y h
    ·rw [List.mem_singleton] at h
     subst h
     rw [← HE5.out,UE.out,HL.out]
     simp
   ·have UE:=zh hch
    clear hch
    rw [UE.out] at rV
    gi_wp2_with (refine ⟨trivial,?_⟩;gi_at_call 77;refine (CallsIn.inRound l (callsIn_wide.2 (rV.out _ wD.out))).mono ?_;rintro e w1 ⟨rfl,hc1⟩;have hb2:=hb1.later hc1;have c2:=hb2.cell;have f2:=hb2.free)
    refine ⟨(dG hc1).trans (KeepsOthers.setCell _ _ _),⟨⟨rfl,zh ⟨x,?_⟩,hb2.set 0 _⟩,(hB.trans (hc1.mono hB.size)).setCell zi _⟩⟩
    rw [← HE5.out,UE.out,HL.out]
    simp
  ·have b1:((mx.length:Int) != (n0:Int))=true:=by simp;omega
   have HL:=zh hl
   clear hl
   gi_wp2
   refine ⟨trivial,?_⟩
   gi_wp2
   refine ⟨KeepsOthers.setCell _ _ _,⟨⟨rfl,zh ⟨x,?_⟩,hb1.set 0 _⟩,hB.setCell zi _⟩⟩
   rw [← HE5.out]
   have:=HL.out
   simp [this]
 case done =>
  rintro D ys W hD rfl ⟨⟨hp,hb0,hb1⟩,hB⟩ hK
  have c1:=hb1.cell
  have f1:=hb1.free
  have hall:m.all (fun r=>r.length == n0&&dP r == 0)=true:=by
   rw [List.all_eq_true]
   intro r hr
   obtain ⟨i,hi,rfl⟩:=List.getElem_of_mem hr
   have h2:i<rs.length:=by rw [HM.out];exact hi
   have:=hp.out ⟨i,h2⟩ (by unfold upto;rw [List.mem_ofFn];exact ⟨⟨i,h2⟩,rfl⟩)
   simpa [hi] using this
  have hz:z=0:=by rw [← Ez.out,if_pos hall]
  have HZ:=zh hz
  clear hall hz
  gi_wp2
  have hb2:=hb1.set 0 (.int .i64 0)
  have hK':=(KeepsOthers.setCell W ⟨w.heap.size+1,0,none⟩ (.int .i64 0)).same D _ hK rfl
  refine ⟨by simp,.inl ⟨_,_,rfl,run_takeDeferred hK',?_⟩⟩
  have hb3:=dQ hb2 (grownBy_putObj' _ D (.deferred none)) (fun r e=>by cases e;exact ⟨_,hK',rfl⟩)
  have kZ:=hb3.cell 0
  refine ⟨.int .i64 0,?_,by rw [HZ.out],(hB.setCell (p:=⟨w.heap.size+1,0,none⟩) zi _).trans (belowK_b (w:=w) (Nat.le_refl _) _ D _ _ (by simp at hD;omega) hK' rfl rfl)⟩
  simp [results,Tryz.f50,go_sem,kZ]
 case stop =>
  rintro D c pre W hD hpre ⟨⟨rfl,hin,hb1⟩,hB⟩ hK
  have hz:z=50:=by
   rw [← Ez.out,if_neg]
   intro h
   obtain ⟨x,hx⟩:=hin.out
   have hxm:x.1<m.length:=HM.out ▸ x.2
   have h2:=List.all_eq_true.1 h m[x.1] (List.getElem_mem _)
   have hgd:m.getD x.1 []=m[x.1]:=by simp [hxm]
   rw [hgd,h2] at hx
   cases hx
  have HZ:=zh hz
  clear hz
  gi_wp2
  refine ⟨by simp,.inl ⟨_,_,rfl,run_takeDeferred hK,?_⟩⟩
  have hb3:=dQ hb1 (grownBy_putObj' _ D (.deferred none)) (fun r e=>by cases e;exact ⟨_,hK,rfl⟩)
  have kZ:=hb3.cell 0
  refine ⟨.int .i64 50,?_,by rw [HZ.out],hB.trans (belowK_b (w:=w) (Nat.le_refl _) W D _ _ (by simp at hD;omega) hK rfl rfl)⟩
  simp [results,Tryz.f50,go_sem,kZ]
end Go.Proofs.matrix
namespace Go.Proofs.matrix
open Go Go.RowKit Go.SW Go.Num Go.Mem Go.Proofs Go.Dec Go.dB
theorem Jr (a:Option Addr) (n cap:Nat) (w:World) (h:n<1∨4<n) :
  Calls Tryz.prog 50 #[.slice a n cap] w fun e w'=>e= .returned (.int .i64 50)∧Below w.heap.size w w':=by
 rcases h with h|h
 ·have q1:decide ((n:Int)<1)=true:=by simp;omega
  clear h
  go_enter Tryz.func50,Tryz.ntmps50
  go_wp2_with fail
  exact bodyPost_ret (v:=.int .i64 50) (by simp [results,Tryz.results50,go_sem]) rfl ⟨rfl,aA⟩
 ·have q1:decide ((n:Int)<1)=false:=by simp;omega
  have q2:decide ((4:Int)<(n:Int))=true:=by simp;omega
  clear h
  go_enter Tryz.func50,Tryz.ntmps50
  go_wp2_with fail
  exact bodyPost_ret (v:=.int .i64 50) (by simp [results,Tryz.results50,go_sem]) rfl ⟨rfl,aA⟩
theorem Jp (b off cap n:Nat) (a0:Option Addr) (n0 cap0:Nat) (w:World) (h1:1≤n) (h4:n≤4) (lb:b<w.heap.size)
  (hc:w.cell? ⟨b,off,none⟩=some (.slice a0 n0 cap0)) (h:n0<1∨4<n0) :
  Calls Tryz.prog 50 #[.slice (some ⟨b,off,none⟩) n cap] w fun e w'=>e= .returned (.int .i64 50)∧Below w.heap.size w w':=by
 have q1:decide ((n:Int)<1)=false:=by simp;omega
 have q2:decide ((4:Int)<(n:Int))=false:=by simp;omega
 have lb1:b<w.heap.size+1:=by omega
 have h0n:0<n:=by omega
 rcases h with h|h
 ·have q3:decide ((n0:Int)<1)=true:=by simp;omega
  clear h
  go_enter Tryz.func50,Tryz.ntmps50
  go_wp2_with fail
  exact bodyPost_ret (v:=.int .i64 50) (by simp [results,Tryz.results50,go_sem]) rfl ⟨rfl,aA⟩
 ·have q3:decide ((n0:Int)<1)=false:=by simp;omega
  have q4:decide ((4:Int)<(n0:Int))=true:=by simp;omega
  clear h
  go_enter Tryz.func50,Tryz.ntmps50
  go_wp2_with fail
  exact bodyPost_ret (v:=.int .i64 50) (by simp [results,Tryz.results50,go_sem]) rfl ⟨rfl,aA⟩
theorem gD (v:Value) (m:List (List Fr)) (w:World) (h:bO w v m) :
  Calls Tryz.prog 50 #[v] w fun e w'=>e= .returned (.int .i64 (oI m))∧Below w.heap.size w w':=by
 obtain ⟨rs,hR,hm,hF⟩:=h
 have hR':=hR
 obtain ⟨a,cap,rfl, -⟩:=hR
 by_cases hlen:rs.length<1∨4<rs.length
 ·have e:oI m=50:=by
   unfold oI FL
   rw [← hm,if_neg]
   intro h
   simp only [Bool.and_eq_true,decide_eq_true_eq] at h
   omega
  rw [e]
  exact Jr _ _ _ w hlen
 ·have h1:1≤rs.length:=by omega
  have h4:rs.length≤4:=by omega
  have h0:0<m.length:=by omega
  rcases hR'.cases with ⟨_,h⟩|⟨b,off,cap',arr,hv,k1,k2,k3,k4⟩
  ·rw [h] at h1;simp at h1
  ·have h0r:0<rs.length:=by omega
   obtain ⟨a0,cap0,e0, -⟩:=(hF 0 h0r h0).read
   have hc:w.cell? ⟨b,off,none⟩=some (.slice a0 m[0].length cap0):=by
    have:=(k3.cell (off+0)).trans (k4 0 h0r)
    rw [e0] at this
    exact this
   have hhd:m.headD []=m[0]:=by cases m with|nil=>simp at h0|cons x t=>rfl
   rw [hv] at hR' ⊢
   by_cases hw:m[0].length<1∨4<m[0].length
   ·have e:oI m=50:=by
     unfold oI FL
     rw [hhd,if_neg]
     intro h
     simp only [Bool.and_eq_true,decide_eq_true_eq] at h
     omega
    rw [e]
    exact Jp b off cap' _ a0 _ cap0 w h1 h4 k3.lt hc hw
   ·have e:oI m=if m.all (fun r=>r.length == m[0].length&&dP r == 0) then 0 else 50:=by
     unfold oI FL
     rw [hhd]
     have e1:decide (1≤m.length)=true:=by simp;omega
     have e2:decide (m.length≤4)=true:=by simp;omega
     have e3:decide (1≤m[0].length)=true:=by simp;omega
     have e4:decide (m[0].length≤4)=true:=by simp;omega
     rw [e1,e2,e3,e4]
     simp only [Bool.true_and]
    rw [e]
    exact LX b off cap' rs.length m rs a0 m[0].length cap0 w rfl h1 h4 hm hR' hc zo zo hF
theorem Sv:(Tryz.prog.info? 56).map (fun i=>(i.zero,i.size,i.bytes))=some (some (.slice none 0 0),1,24):=by kernel_rfl
theorem ny:(Tryz.prog.info? 36).map (fun i=>(i.zero,i.size,i.bytes))=some (some (.agg #[.string ⟨#[]⟩,.string ⟨#[]⟩]),2,32):=by kernel_rfl
theorem Du (vl:Value) (l:List Fr) (T:TypeId) (w:World) (hl:jI w T vl l) (h1:1≤l.length) (h4:l.length≤4) (hc:dP l=0) :
  Calls Tryz.prog 38 #[vl] w (aS w 0 (oG l)):=by
 obtain ⟨im,im1,im2,im3,im4⟩:=info_parts Sv
 obtain ⟨i0,hi,hz0,hz1,hz2⟩:=info_parts ny
 have rV:=zh (fun w' hb=>nR vl l T w' (hl.later hb))
 rw [hc] at rV
 obtain ⟨al,af7,rfl,Te,PO,hread⟩:=hl.read
 have ME:Hid (∀ r,r<l.length→∃ b off,al=some ⟨b,off,none⟩∧b<w.heap.size∧w.cell? ⟨b,off+r*2,none⟩=some (.string (l.getD r Fr.no).n)∧w.cell? ⟨b,off+r*2+1,none⟩=some (.string (l.getD r Fr.no).d)):=zh fun r hr=>by
  obtain ⟨b,off,k1,k2,k3,k4⟩:=hread r hr
  have e:l.getD r Fr.no=l[r]:=by simp [hr]
  rw [e]
  exact ⟨b,off,k1,k2,k3,k4⟩
 obtain ⟨n,hn⟩:∃ n,l.length=n:=⟨_,rfl⟩
 have HDR:Hid (∀ r c,c<n→(nP l r).getD c Fr.no=if c=r then l.getD r Fr.no else Fr.zero):=zh fun r c hc=>by
  unfold nP
  simp [hn,hc]
 have Cn:Hid (∀ r,(nP l r).length=n):=zh fun r=>by simp [nP,hn]
 have HDM:Hid ((oG l).length=n∧∀ r,r<n→(oG l).getD r []=nP l r):=zh ⟨by simp [oG,hn],fun r hr=>by simp [oG,hn,hr]⟩
 rw [hn] at h1 h4 ME Te rV ⊢
 have q1:decide ((n:Int)<1)=false:=by simp;omega
 have q2:decide ((4:Int)<(n:Int))=false:=by simp;omega
 clear hl hc hread hn
 go_enter Tryz.func38,Tryz.ntmps38
 go_wp2_with fail
 refine (rV.out _ (Below.refl _ _)).mono ?_
 rintro e v1 ⟨rfl,hc1⟩
 go_wp2_with (at_make;refine wpList_make_full _ rfl _ _ 44 rfl w.heap.size 56 im (.slice none 0 0) 1 Tryz.underlying44 im1 im2 im3 _ _ _ _ n rfl rfl zo zo (by rw [im4];omega) (by unfold maxLen;omega) hc1.size ?_)
 intro w2 hown hgrow
 have hb2:Below w.heap.size w w2:=Bt hc1 ((Below.refl _ _).grown hgrow (Nat.le_refl _) (fun k hk=>by cases hk))
 have HM:=zh (gB.start (f:=nP l) hown)
 obtain ⟨M,EM⟩:∃ y:Nat,Hid (v1.heap.size=y):=⟨_,zh rfl⟩
 rw [EM.out] at HM ⊢
 have hMw:w.heap.size≤M:=by rw [← EM.out];exact hc1.size
 clear hown hgrow hc1 EM
 go_wp2_with fail
 go_loopw [26] (fun iv wr=>∃ r:Nat,iv= .int .i64 (r:Int)∧r≤n∧Hid (gB wr M n r (nP l))∧Below w.heap.size w wr) (fun iv _=>n - (intOf iv).toNat)
 case atStart=>exact ⟨0,rfl,by omega,HM,hb2⟩
 case round =>
  clear HM hb2
  obtain ⟨r,rfl,hr,HM,hb⟩:=hrel
  rcases Nat.lt_or_ge r n with hlt|hge
  ·obtain ⟨wo,hwo⟩:∃ y,y=wr:=⟨_,rfl⟩
   subst hwo
   have hlt2:(r:Int)<(n:Int):=by omega
   have lM:=HM.out.lt
   go_wp2_with (at_make;refine wpList_make_full _ rfl _ _ 56 rfl wo.heap.size 36 i0 (.agg #[.string ⟨#[]⟩,.string ⟨#[]⟩]) 2 Tryz.underlying56 hi hz0 hz1 _ _ _ _ n rfl rfl zo zo (by rw [hz2];omega) (by unfold maxLen;omega) (Nat.le_refl _) ?_)
   intro w3 hown hgrow
   have hb3:Below wo.heap.size wo w3:=(Below.refl _ _).grown hgrow (Nat.le_refl _) (fun k hk=>by cases hk)
   have HF:=zh (Fill.start (ok:=xR (fun c=>(nP l r).getD c Fr.no)) hown)
   obtain ⟨G,EG⟩:∃ y:Nat,Hid (wo.heap.size=y):=⟨_,zh rfl⟩
   rw [EG.out] at HF ⊢
   have hGw:wo.heap.size≤G:=by rw [EG.out];exact Nat.le_refl _
   have UA:=HM.out.later hb3
   obtain ⟨⟨y1,GY⟩,fy⟩:=UA.cell hlt
   have lM3:=UA.lt
   have isM:=UA.uS
   obtain ⟨qK,bM,hsz, -⟩:=UA
   have hrs:r<qK.size:=by omega
   have Qs:=zh bM
   have lG:=HF.out.lt
   clear hown hgrow
   have hGM:G≠M:=by omega
   have PW:M≠G:=by omega
   have hN3:gY wo (w3.setCell ⟨M,r,none⟩ (.slice (some ⟨G,0,none⟩) n n)) M:=((gY.refl wo M).below hb3).set _ _
   have HF4:=zh (((HF.out.BQ (f':=fun _=>Fr.zero) (fun i hi=>by omega)).other (a:=⟨M,r,none⟩) (.slice (some ⟨G,0,none⟩) n n) hGM))
   have YC:=zh (bM.set r (.slice (some ⟨G,0,none⟩) n n))
   go_wp2_with fail
   clear GY fy lM3 isM lG HF hGw
   go_loopw [37] (fun iv wi=>∃ c:Nat,iv= .int .i64 (c:Int)∧c≤n∧Hid (Fill wi G 36 n c (xR fun _=>Fr.zero))∧Hid (aB wi M (qK.setIfInBounds r (.slice (some ⟨G,0,none⟩) n n)) 56)∧Hid (gY wo wi M)) (fun iv _=>n - (intOf iv).toNat)
   case atStart=>exact ⟨0,rfl,by omega,HF4,YC,zh hN3⟩
   case round =>
    clear HF4 YC hN3 bM
    obtain ⟨c,rfl,hcn,HF,HB,HN⟩:=hrel
    have cM:=HB.out.cell r
    rw [Array.getElem?_setIfInBounds,if_pos rfl,if_pos hrs] at cM
    have lMi:=HB.out.lt
    have lGi:=HF.out.lt
    rcases Nat.lt_or_ge c n with hcl|hcl
    ·obtain ⟨⟨z1,cz1⟩,⟨z2,cz2⟩,fz⟩:=HF.out.cells hcl
     have PO:(c:Int)<(n:Int):=by omega
     go_wp2_with fail
     go_roundw
     case rel=>exact ⟨c+1,by go_num,by omega,zh (HF.out.step hcl (fun _ _ _ h=>h) ⟨rfl,rfl⟩),zh ((HB.out.setOther _ PW).setOther _ PW),zh ((HN.out.gT (by rw [EG.out];exact Nat.le_refl _) _ _).gT (by rw [EG.out];exact Nat.le_refl _) _ _)⟩
     case measure=>exact zM
    ·obtain rfl:c=n:=by omega
     obtain ⟨b,off,rfl,lb,cl1,cl2⟩:=ME.out r hlt
     have hbi:Below w.heap.size w wr:=HN.out.toBelow hb hMw
     have ci1:=(hbi.cell (p:=⟨b,off+r*2,none⟩) lb).trans cl1
     have ci2:=(hbi.cell (p:=⟨b,off+r*2+1,none⟩) lb).trans cl2
     clear cl1 cl2
     go_wp2_with fail
     refine aC [(.pure,0),(.pure,1),(.pure,2),(.read,3),(.pure,4),(.pure,5),(.pure,6),(.pure,7),(.read,8),(.pure,9),(.fin,10)] zk zk zR zP ?_
     repeat (first|(refine ah rfl rfl fun J h=>?_;go_simp;refine h _ ?_;clear h J)|(refine au rfl rfl rfl rfl fun J h=>?_;go_simp;refine h _ ?_;clear h J;try go_simp))
     refine aJ [_] rfl (fun w9 gQ=>?_)
     have ab8:Below wr.heap.size wr w9:=aA
     replace HF:=zh (HF.out.yA ab8)
     replace HB:=zh (HB.out.later ab8)
     replace HN:=zh (HN.out.below ab8)
     obtain ⟨⟨z1,cz1⟩,⟨z2,cz2⟩,fz⟩:=HF.out.cells hlt
     go_wp2_with fail
     go_roundw
     case rel =>
      have hN2:=(HN.out.gT (P:=G) (by rw [EG.out];exact Nat.le_refl _) (r*2) (.string (l.getD r Fr.no).n)).gT (P:=G) (by rw [EG.out];exact Nat.le_refl _) (r*2+1) (.string (l.getD r Fr.no).d)
      refine ⟨r+1,by go_num,by omega,zh (HM.out.step (v:=.slice (some ⟨G,0,none⟩) c c) hlt hN2 (fun arr hA=>?_) ?_),hN2.toBelow hb hMw⟩
      ·have hAM:arr=qK:=dB.aB.uniq (hA.later hb3) Qs.out
       rw [hAM]
       exact (HB.out.setOther _ PW).setOther _ PW
      ·refine Fill.zL ((HF.out.put hlt).BQ fun i hi=>?_) (Cn.out r) zo
       exact (HDR.out r i hi).symm
     case measure=>exact zM
  ·obtain rfl:r=n:=by omega
   have hmv:bO wr (.slice (some ⟨M,0,none⟩) r r) (oG l):=by
    obtain ⟨e1,e2⟩:=HDM.out
    have hM:=HM.out
    have:bO wr (.slice (some ⟨M,0,none⟩) (oG l).length (oG l).length) (oG l):=by
     refine gB.zC ?_ zo
     rw [e1]
     obtain ⟨arr,k1,k2,k3⟩:=hM
     refine ⟨arr,k1,k2,fun i hi=>?_⟩
     show ∃ v,arr[i]? =some v∧jI wr 36 v ((oG l).getD i [])
     rw [e2 i hi]
     exact k3 i hi
    rw [e1] at this
    exact this
   have vY:=zh hmv
   clear hmv
   go_wp2_with fail
   go_ret2
   exact aS.yes hb vY.out
theorem GR (a:Option Addr) (n cap:Nat) (m:List (List Fr)) (w:World) (h:n<1∨4<n) :
  Calls Tryz.prog 38 #[.slice a n cap] w (aS w 2 m):=by
 rcases h with h|h
 ·have q1:decide ((n:Int)<1)=true:=by simp;omega
  clear h
  go_enter Tryz.func38,Tryz.ntmps38
  go_wp2_with fail
  go_ret2
  exact aS.no aA zd
 ·have q1:decide ((n:Int)<1)=false:=by simp;omega
  have q2:decide ((4:Int)<(n:Int))=true:=by simp;omega
  clear h
  go_enter Tryz.func38,Tryz.ntmps38
  go_wp2_with fail
  go_ret2
  exact aS.no aA zd
theorem GU (vl:Value) (l:List Fr) (m:List (List Fr)) (T:TypeId) (w:World) (hl:jI w T vl l) (h1:1≤l.length) (h4:l.length≤4) (hc:dP l=20) :
  Calls Tryz.prog 38 #[vl] w (aS w 20 m):=by
 have rV:=zh (fun w' hb=>nR vl l T w' (hl.later hb))
 rw [hc] at rV
 obtain ⟨al,af7,rfl, -⟩:=hl.read
 obtain ⟨n,hn⟩:∃ n,l.length=n:=⟨_,rfl⟩
 rw [hn] at h1 h4 rV ⊢
 have q1:decide ((n:Int)<1)=false:=by simp;omega
 have q2:decide ((4:Int)<(n:Int))=false:=by simp;omega
 clear hl hc hn
 go_enter Tryz.func38,Tryz.ntmps38
 go_wp2_with fail
 refine (rV.out _ (Below.refl _ _)).mono ?_
 rintro e v1 ⟨rfl,hc1⟩
 go_wp2_with fail
 go_ret2
 exact aS.no hc1 zd
theorem uf (vl:Value) (l:List Fr) (T:TypeId) (w:World) (hl:jI w T vl l) :
  Calls Tryz.prog 38 #[vl] w (aS w (TS l) (oG l)):=by
 unfold TS
 by_cases h:l.length<1∨4<l.length
 ·rw [if_pos h]
  obtain ⟨al,af7,rfl, -⟩:=hl.read
  exact GR _ _ _ _ w h
 ·rw [if_neg h]
  have hc:dP l=0∨dP l=20:=by unfold dP;split<;>simp
  rcases hc with hc|hc
  ·rw [hc]
   exact Du vl l T w hl zo zo hc
  ·rw [hc]
   exact GU vl l _ T w hl zo zo hc
end Go.Proofs.matrix
namespace Go.Proofs.matrix
open Go Go.RowKit Go.SW Go.Num Go.Mem Go.Proofs Go.Dec
theorem eH (m:Value) (n:Nat) (b:Bool) (w:World) (h:aM w m n) :
  Calls Tryz.prog 69 #[m,.bool b] w (fun e w'=>∃ v,e= .returned v∧Below w.heap.size w w'∧aZ w' v (je n b)):=ai3
theorem fM (z:Int) (hz:(Lib.decDigits z.natAbs).length≤600) (w:World) :
  Calls Tryz.prog 140 #[sO z] w (fun e w'=>∃ v,e= .returned v∧Below w.heap.size w w'∧aZ w' v z):=ai2
theorem oZ (v:Value) (z:Int) (w:World) (h:aZ w v z) :
  Calls Tryz.prog 72 #[v] w (fun e w'=>∃ v,e= .returned v∧Below w.heap.size w w'∧aZ w' v (-z)):=ai1
theorem lK (v u:Value) (z:Int) (n:Nat) (w:World) (h:aZ w v z) (hu:aM w u n) (hz:sz 1000000000 z.natAbs≤549755813888) (hn:sz 1000000000 n≤549755813888) :
  Calls Tryz.prog 62 #[v,u] w (fun e w'=>∃ v,e= .returned v∧Below w.heap.size w w'∧aZ w' v (z*n)):=ai0
theorem H8 (pa pb:Option Addr) (l m ca cb:Nat) (z y:Int) (b:Bool) (w:World) (h:aM w (.slice pa l ca) z.natAbs) (h2:aM w (.slice pb m cb) y.natAbs) (hz:decide (z<0)=b) (hy:decide (y<0)=b) (kz:sz 1000000000 z.natAbs≤549755813888) (ky:sz 1000000000 y.natAbs≤549755813888) :
  Calls Tryz.prog 132 #[.agg #[.slice pa l ca,.bool b],.agg #[.slice pb m cb,.bool b]] w (fun e w'=>∃ v,e= .returned v∧Below w.heap.size w w'∧aZ w' v (z+y)):=ah9
theorem H9 (pa pb:Option Addr) (l m ca cb:Nat) (z y:Int) (b:Bool) (w:World) (h:aM w (.slice pa l ca) z.natAbs) (h2:aM w (.slice pb m cb) y.natAbs) (hz:decide (z<0)=b) (hy:decide (y<0)= !b) (kz:sz 1000000000 z.natAbs≤549755813888) (ky:sz 1000000000 y.natAbs≤549755813888) :
  Calls Tryz.prog 132 #[.agg #[.slice pa l ca,.bool b],.agg #[.slice pb m cb,.bool !b]] w (fun e w'=>∃ v,e= .returned v∧Below w.heap.size w w'∧aZ w' v (z+y)):=ah8
theorem vH (v u:Value) (z y:Int) (w:World) (h:aZ w v z) (h2:aZ w u y) (kz:sz 1000000000 z.natAbs≤549755813888) (ky:sz 1000000000 y.natAbs≤549755813888) :
  Calls Tryz.prog 132 #[v,u] w (fun e w'=>∃ v,e= .returned v∧Below w.heap.size w w'∧aZ w' v (z+y)):=ah7
theorem Fq (v:Value) (z:Int) (w:World) (h:aZ w v z) (kz:sz 1000000000 z.natAbs≤1099511627776) (ht:pR.Pow w) :
  Calls Tryz.prog 124 #[v] w (fun e w'=>e= .returned (sO z)∧Below w.heap.size w w'):=ah6
theorem om (v u:Value) (z y:Int) (w:World) (h:aZ w v z) (h2:aZ w u y) (kz:sz 1000000000 z.natAbs≤549755813888) (ky:sz 1000000000 y.natAbs≤549755813888) :
  Calls Tryz.prog 130 #[v,u] w (fun e w'=>∃ v,e= .returned v∧Below w.heap.size w w'∧aZ w' v (z*y)):=by
 obtain ⟨Iq,lH,Jy,rfl,H⟩:=h;replace H:=zh H
 obtain ⟨aC9,lH2,aI4,rfl,H2⟩:=h2;replace H2:=zh H2
 have KZ:=zh kz
 have KY:=zh ky
 clear kz ky
 go_enter Tryz.func130,Tryz.ntmps130
 go_wp2_with fail
 refine aC [(.pure,0),(.read,1),(.pure,2),(.read,3),(.pure,5),(.read,6),(.pure,7),(.read,8),(.pure,9),(.ext,4),(.ext,10),(.fin,11)] zk zk zR zP ?_
 repeat (first|(refine ah rfl rfl fun J h=>?_;go_simp;refine h _ ?_;clear h J)|(refine au rfl rfl rfl rfl fun J h=>?_;go_simp;refine h _ ?_;clear h J;try go_simp))
 refine aD rfl rfl (fun w1 hb1 J hJ=>?_);go_simp
 have BR:=aB.later (aB.drew (aB.at2 _ _ _ _ _)) hb1;have bJ:=BR.cell;have bI:=BR.free
 refine (jm _ _ z.natAbs y.natAbs _ aH aH (Nat.le_trans KZ.out zo) (Nat.le_trans KY.out zo)).mono ?_
 rintro e v1 ⟨v,rfl,hc1,hv⟩
 obtain ⟨Vx,lHS,WW,rfl⟩:=hv.slice;have HS:=zh hv;clear hv
 replace BR:=aB.later (BR) hc1;replace bJ:=BR.cell;replace bI:=BR.free
 refine hJ _ _ hc1 ?_
 clear hJ J
 refine aD rfl rfl (fun w2 hb2 J hJ=>?_);go_simp
 replace BR:=aB.later (BR) hb2;replace bJ:=BR.cell;replace bI:=BR.free
 refine (eH _ (z.natAbs*y.natAbs) _ _ aH).mono ?_
 rintro e v2 ⟨v,rfl,hc2,hv⟩
 obtain ⟨Vw,lHT,WV,rfl,HT⟩:=hv;replace HT:=zh HT
 replace BR:=aB.later (BR) hc2;replace bJ:=BR.cell;replace bI:=BR.free
 refine hJ _ _ hc2 ?_
 clear hJ J
 refine aJ [_] rfl (fun w5 hb5=>?_)
 replace BR:=aB.later (BR) hb5;replace bJ:=BR.cell;replace bI:=BR.free
 go_wp2_with fail
 refine bP rfl rfl aL Tryz.underlying99 rfl zk ?_
 exact ⟨_,rfl,aA,(aZ.aW aH).cast (AO z y)⟩
end Go.Proofs.matrix
namespace Go.Proofs.matrix
open Go Go.RowKit Go.SW Go.Num Go.Mem Go.Proofs Go.Dec Go.dB
theorem Iz (x y:Value) (a b:Nat) (w:World) (hx:aM w x a) (hy:aM w y b) (ha:0<a) (ka:sz 1000000000 a≤549755813888) (kb:sz 1000000000 b≤549755813888) :
  Calls Tryz.prog 139 #[x,y] w (fun e w'=>∃ v,e= .returned v∧Below w.heap.size w w'∧aM w' v (a*(b / a.gcd b))):=by
 obtain ⟨Iq,lH,Jy,rfl⟩:=hx.slice;have H:=zh hx;clear hx
 obtain ⟨Qz,lG,QL,rfl⟩:=hy.slice;have G:=zh hy;clear hy
 have hg:0<a.gcd b:=Nat.gcd_pos_of_pos_left _ ha
 have kc:= @gF b (a.gcd b)
 obtain ⟨g,Eg⟩:∃ y:Nat,Hid (a.gcd b=y):=⟨_,zh rfl⟩
 rw [Eg.out] at hg kc ⊢
 obtain ⟨c,Ec⟩:∃ y:Nat,Hid (b / g=y):=⟨_,zh rfl⟩
 rw [Ec.out] at kc ⊢
 obtain ⟨d,Ed⟩:∃ y:Nat,Hid (a*c=y):=⟨_,zh rfl⟩
 rw [Ed.out]
 have HG:=zh hg
 have KC:=zh (Nat.le_trans kc kb)
 have KA:=zh ka
 have KB:=zh kb
 clear hg ha kc ka kb
 go_enter Tryz.func139,Tryz.ntmps139
 go_wp2_with fail
 refine ((nC _ _ a b _ aH aH KA.out KB.out).mono (by rw [Eg.out];exact fun _ _ h=>h)).mono ?_
 rintro e v1 ⟨v,rfl,hc1,hv⟩
 obtain ⟨RB,lHg,Ug,rfl⟩:=hv.slice;have Hg:=zh hv;clear hv
 replace H:=zh (aM.carry H.out aH hc1)
 replace G:=zh (aM.carry G.out aH hc1)
 go_wp2_with fail
 refine ((dD _ _ b g _ aH aH HG.out KB.out).mono (by rw [Ec.out];exact fun _ _ h=>h)).mono ?_
 rintro e v2 ⟨v,vr,rfl,hc2,hv,jf⟩
 obtain ⟨aC5,lHc,aI0,rfl⟩:=hv.slice;have Hc:=zh hv;clear hv;obtain ⟨ao7,aD1,ax8,rfl⟩:=jf.slice;have Hcr:=zh jf;clear jf
 replace H:=zh (aM.later H.out hc2)
 replace G:=zh (aM.later G.out hc2)
 replace Hg:=zh (aM.later Hg.out hc2)
 go_wp2_with fail
 refine ((jm _ _ a c _ aH aH (Nat.le_trans KA.out zo) (Nat.le_trans KC.out zo)).mono (by rw [Ed.out];exact fun _ _ h=>h)).mono ?_
 rintro e v3 ⟨v,rfl,hc3,hv⟩
 obtain ⟨aC4,lHd,aH9,rfl⟩:=hv.slice;have Hd:=zh hv;clear hv
 replace H:=zh (aM.later H.out hc3)
 go_wp2_with fail
 go_ret
 exact ⟨_,rfl,aA,Hd.out⟩
theorem jO (x y:Value) (n d:Int) (w:World) (hx:aZ w x n) (hy:aZ w y d) (hd:d≠0) (kn:sz 1000000000 n.natAbs≤549755813888) (kd:sz 1000000000 d.natAbs≤549755813888) (ht:pR.Pow w) :
  Calls Tryz.prog 61 #[x,y] w (fun e w'=>e= .returned (Fr.res (wr ((n:Rat) / (d:Rat))))∧Below w.heap.size w w'):=by
 obtain ⟨Iq,lH,Jy,rfl,H⟩:=hx;replace H:=zh H
 obtain ⟨Qz,lG,QL,rfl,G⟩:=hy;replace G:=zh G
 have hdp:0<d.natAbs:=by omega
 rw [← Nh n d hd]
 have hp:=wN (je n.natAbs (!(decide (n<0) == decide (d<0)))) hdp
 rw [jw] at hp
 have hg:0<n.natAbs.gcd d.natAbs:=Nat.gcd_pos_of_pos_right _ hdp
 have kt:= @gF n.natAbs (n.natAbs.gcd d.natAbs)
 have kb:= @gF d.natAbs (n.natAbs.gcd d.natAbs)
 obtain ⟨q,Eq⟩:∃ y:Rat,Hid (mkRat (je n.natAbs (Bool.not (decide (n<0) == decide (d<0)))) d.natAbs=y):=⟨_,zh rfl⟩
 rw [show mkRat (je n.natAbs (!(decide (n<0) == decide (d<0)))) d.natAbs=q from Eq.out] at hp ⊢
 obtain ⟨g,Eg⟩:∃ y:Nat,Hid (n.natAbs.gcd d.natAbs=y):=⟨_,zh rfl⟩
 rw [Eg.out] at hg kt kb hp
 obtain ⟨t,Et⟩:∃ y:Nat,Hid (n.natAbs / g=y):=⟨_,zh rfl⟩
 rw [Et.out] at kt hp
 obtain ⟨b,Eb⟩:∃ y:Nat,Hid (d.natAbs / g=y):=⟨_,zh rfl⟩
 rw [Eb.out] at kb hp
 have IU:q.num.natAbs=t:=by rw [hp.1,jw]
 have hden:q.den=b:=hp.2
 have V5:q.num=je t (!(decide (n<0) == decide (d<0))):=by
  rw [hp.1]
  unfold je
  by_cases h0:t=0
  ·simp [h0]
  ·have hn0:n.natAbs≠0:=fun e=>h0 (by rw [← Et.out,e];simp)
   by_cases h1:n<0<;>by_cases h2:d<0<;>simp [h1,h2]<;>omega
 have HG:=zh hg
 have KT:=zh (Nat.le_trans kt kn)
 have KB:=zh (Nat.le_trans kb kd)
 have KN:=zh kn
 have KD:=zh kd
 have HT:=zh ht
 clear hg kt kb kn kd ht hp hd hdp
 rcases Nat.lt_or_ge 600 (Lib.decDigits t).length with h1|h1
 ·rw [rY (by unfold dA;rw [IU,FJ h1];rfl)]
  clear IU hden V5
  go_enter Tryz.func61,Tryz.ntmps61
  go_wp2_with fail
  refine ((nC _ _ n.natAbs d.natAbs _ aH aH KN.out KD.out).mono (by rw [Eg.out];exact fun _ _ h=>h)).mono ?_
  rintro e v1 ⟨v,rfl,hc1,hv⟩
  obtain ⟨RB,lHg,Ug,rfl⟩:=hv.slice;have Hg:=zh hv;clear hv
  replace H:=zh (aM.carry H.out aH hc1)
  replace G:=zh (aM.carry G.out aH hc1)
  have BR:=aB.later (aB.at2 _ _ _ _ _) hc1;have bJ:=BR.cell;have bI:=BR.free;have gu:=BR.lt
  have B1:=aB.later (aB.alloc (aB.mg _ _ _ _) _) hc1;have cB1:=B1.cell;have mE:=B1.free;have lB1:=B1.lt
  have B0:=aB.later (aB.alloc (aB.alloc (aB.new _ _ _) _) _) hc1;have cB0:=B0.cell;have j4:=B0.free;have lB0:=B0.lt
  go_wp2_with fail
  refine ((dD _ _ n.natAbs g _ aH aH HG.out KN.out).mono (by rw [Et.out];exact fun _ _ h=>h)).mono ?_
  rintro e v2 ⟨v,vr,rfl,hc2,hv,jf⟩
  obtain ⟨Y6,lHt,af9,rfl⟩:=hv.slice;have Ht:=zh hv;clear hv;obtain ⟨XI,ap2,Yo,rfl⟩:=jf.slice;have Htr:=zh jf;clear jf
  replace H:=zh (aM.later H.out hc2)
  replace G:=zh (aM.later G.out hc2)
  replace Hg:=zh (aM.later Hg.out hc2)
  replace BR:=aB.later (BR) hc2;replace bJ:=BR.cell;replace bI:=BR.free;replace gu:=BR.lt
  replace B1:=aB.later (B1) hc2;replace cB1:=B1.cell;replace mE:=B1.free;replace lB1:=B1.lt
  replace B0:=aB.later (B0) hc2;replace cB0:=B0.cell;replace j4:=B0.free;replace lB0:=B0.lt
  go_wp2_with fail
  refine ((dD _ _ d.natAbs g _ aH aH HG.out KD.out).mono (by rw [Eb.out];exact fun _ _ h=>h)).mono ?_
  rintro e v3 ⟨v,vr,rfl,hc3,hv,jf⟩
  obtain ⟨Y7,lHb,ag0,rfl⟩:=hv.slice;have Hb:=zh hv;clear hv;obtain ⟨RD,Zv,Uh,rfl⟩:=jf.slice;have Hbr:=zh jf;clear jf
  replace Ht:=zh (aM.later Ht.out hc3)
  replace BR:=aB.later (BR) hc3;replace bJ:=BR.cell;replace bI:=BR.free;replace gu:=BR.lt
  replace B1:=aB.later (B1) hc3;replace cB1:=B1.cell;replace mE:=B1.free;replace lB1:=B1.lt
  replace B0:=aB.later (B0) hc3;replace cB0:=B0.cell;replace j4:=B0.free;replace lB0:=B0.lt
  go_wp2_with fail
  refine (iH _ t _ aH (Nat.le_trans KT.out zo) (HT.out.later aA)).mono ?_
  rintro e v4 ⟨rfl,hc4⟩
  replace BR:=aB.later (BR) hc4;replace bJ:=BR.cell;replace bI:=BR.free;replace gu:=BR.lt
  go_wp2_with fail
  refine aP rfl rfl aL Tryz.underlying36 rfl zk ?_
  exact ⟨rfl,aA⟩
 ·rcases Nat.lt_or_ge 600 (Lib.decDigits b).length with h2|h2
  ·rw [rY (by unfold dA;rw [hden,FJ h2,Bool.and_false])]
   clear IU hden V5
   go_enter Tryz.func61,Tryz.ntmps61
   go_wp2_with fail
   refine ((nC _ _ n.natAbs d.natAbs _ aH aH KN.out KD.out).mono (by rw [Eg.out];exact fun _ _ h=>h)).mono ?_
   rintro e v1 ⟨v,rfl,hc1,hv⟩
   obtain ⟨RB,lHg,Ug,rfl⟩:=hv.slice;have Hg:=zh hv;clear hv
   replace H:=zh (aM.carry H.out aH hc1)
   replace G:=zh (aM.carry G.out aH hc1)
   have BR:=aB.later (aB.at2 _ _ _ _ _) hc1;have bJ:=BR.cell;have bI:=BR.free;have gu:=BR.lt
   have B1:=aB.later (aB.alloc (aB.mg _ _ _ _) _) hc1;have cB1:=B1.cell;have mE:=B1.free;have lB1:=B1.lt
   have B0:=aB.later (aB.alloc (aB.alloc (aB.new _ _ _) _) _) hc1;have cB0:=B0.cell;have j4:=B0.free;have lB0:=B0.lt
   go_wp2_with fail
   refine ((dD _ _ n.natAbs g _ aH aH HG.out KN.out).mono (by rw [Et.out];exact fun _ _ h=>h)).mono ?_
   rintro e v2 ⟨v,vr,rfl,hc2,hv,jf⟩
   obtain ⟨Y6,lHt,af9,rfl⟩:=hv.slice;have Ht:=zh hv;clear hv;obtain ⟨XI,ap2,Yo,rfl⟩:=jf.slice;have Htr:=zh jf;clear jf
   replace H:=zh (aM.later H.out hc2)
   replace G:=zh (aM.later G.out hc2)
   replace Hg:=zh (aM.later Hg.out hc2)
   replace BR:=aB.later (BR) hc2;replace bJ:=BR.cell;replace bI:=BR.free;replace gu:=BR.lt
   replace B1:=aB.later (B1) hc2;replace cB1:=B1.cell;replace mE:=B1.free;replace lB1:=B1.lt
   replace B0:=aB.later (B0) hc2;replace cB0:=B0.cell;replace j4:=B0.free;replace lB0:=B0.lt
   go_wp2_with fail
   refine ((dD _ _ d.natAbs g _ aH aH HG.out KD.out).mono (by rw [Eb.out];exact fun _ _ h=>h)).mono ?_
   rintro e v3 ⟨v,vr,rfl,hc3,hv,jf⟩
   obtain ⟨Y7,lHb,ag0,rfl⟩:=hv.slice;have Hb:=zh hv;clear hv;obtain ⟨RD,Zv,Uh,rfl⟩:=jf.slice;have Hbr:=zh jf;clear jf
   replace Ht:=zh (aM.later Ht.out hc3)
   replace BR:=aB.later (BR) hc3;replace bJ:=BR.cell;replace bI:=BR.free;replace gu:=BR.lt
   replace B1:=aB.later (B1) hc3;replace cB1:=B1.cell;replace mE:=B1.free;replace lB1:=B1.lt
   replace B0:=aB.later (B0) hc3;replace cB0:=B0.cell;replace j4:=B0.free;replace lB0:=B0.lt
   go_wp2_with fail
   refine (iH _ t _ aH (Nat.le_trans KT.out zo) (HT.out.later aA)).mono ?_
   rintro e v4 ⟨rfl,hc4⟩
   replace Ht:=zh (aM.later Ht.out hc4)
   replace Hb:=zh (aM.later Hb.out hc4)
   replace BR:=aB.later (BR) hc4;replace bJ:=BR.cell;replace bI:=BR.free;replace gu:=BR.lt
   go_wp2_with fail
   refine (iH _ b _ aH (Nat.le_trans KB.out zo) (HT.out.later aA)).mono ?_
   rintro e v5 ⟨rfl,kZ⟩
   replace BR:=aB.later (BR) kZ;replace bJ:=BR.cell;replace bI:=BR.free;replace gu:=BR.lt
   go_wp2_with fail
   refine aP rfl rfl aL Tryz.underlying36 rfl zk ?_
   exact ⟨rfl,aA⟩
  ·rw [Xz (by unfold dA;rw [IU,hden,fE.2 h1,fE.2 h2];rfl),V5,hden]
   obtain ⟨s,Es⟩:∃ y:Int,Hid (je t (Bool.not (decide (n<0) == decide (d<0)))=y):=⟨_,zh rfl⟩
   rw [show je t (!(decide (n<0) == decide (d<0)))=s from Es.out]
   have KS:Hid (sz 1000000000 s.natAbs≤549755813888):=by unfold Hid;rw [← Es.out,jw];exact KT.out
   clear IU hden V5
   go_enter Tryz.func61,Tryz.ntmps61
   go_wp2_with fail
   refine ((nC _ _ n.natAbs d.natAbs _ aH aH KN.out KD.out).mono (by rw [Eg.out];exact fun _ _ h=>h)).mono ?_
   rintro e v1 ⟨v,rfl,hc1,hv⟩
   obtain ⟨RB,lHg,Ug,rfl⟩:=hv.slice;have Hg:=zh hv;clear hv
   replace H:=zh (aM.carry H.out aH hc1)
   replace G:=zh (aM.carry G.out aH hc1)
   have BR:=aB.later (aB.at2 _ _ _ _ _) hc1;have bJ:=BR.cell;have bI:=BR.free;have gu:=BR.lt
   have B1:=aB.later (aB.alloc (aB.mg _ _ _ _) _) hc1;have cB1:=B1.cell;have mE:=B1.free;have lB1:=B1.lt
   have B0:=aB.later (aB.alloc (aB.alloc (aB.new _ _ _) _) _) hc1;have cB0:=B0.cell;have j4:=B0.free;have lB0:=B0.lt
   go_wp2_with fail
   refine ((dD _ _ n.natAbs g _ aH aH HG.out KN.out).mono (by rw [Et.out];exact fun _ _ h=>h)).mono ?_
   rintro e v2 ⟨v,vr,rfl,hc2,hv,jf⟩
   obtain ⟨Y6,lHt,af9,rfl⟩:=hv.slice;have Ht:=zh hv;clear hv;obtain ⟨XI,ap2,Yo,rfl⟩:=jf.slice;have Htr:=zh jf;clear jf
   replace H:=zh (aM.later H.out hc2)
   replace G:=zh (aM.later G.out hc2)
   replace Hg:=zh (aM.later Hg.out hc2)
   replace BR:=aB.later (BR) hc2;replace bJ:=BR.cell;replace bI:=BR.free;replace gu:=BR.lt
   replace B1:=aB.later (B1) hc2;replace cB1:=B1.cell;replace mE:=B1.free;replace lB1:=B1.lt
   replace B0:=aB.later (B0) hc2;replace cB0:=B0.cell;replace j4:=B0.free;replace lB0:=B0.lt
   go_wp2_with fail
   refine ((dD _ _ d.natAbs g _ aH aH HG.out KD.out).mono (by rw [Eb.out];exact fun _ _ h=>h)).mono ?_
   rintro e v3 ⟨v,vr,rfl,hc3,hv,jf⟩
   obtain ⟨Y7,lHb,ag0,rfl⟩:=hv.slice;have Hb:=zh hv;clear hv;obtain ⟨RD,Zv,Uh,rfl⟩:=jf.slice;have Hbr:=zh jf;clear jf
   replace Ht:=zh (aM.later Ht.out hc3)
   replace BR:=aB.later (BR) hc3;replace bJ:=BR.cell;replace bI:=BR.free;replace gu:=BR.lt
   replace B1:=aB.later (B1) hc3;replace cB1:=B1.cell;replace mE:=B1.free;replace lB1:=B1.lt
   replace B0:=aB.later (B0) hc3;replace cB0:=B0.cell;replace j4:=B0.free;replace lB0:=B0.lt
   go_wp2_with fail
   refine (iH _ t _ aH (Nat.le_trans KT.out zo) (HT.out.later aA)).mono ?_
   rintro e v4 ⟨rfl,hc4⟩
   replace Ht:=zh (aM.later Ht.out hc4)
   replace Hb:=zh (aM.later Hb.out hc4)
   replace BR:=aB.later (BR) hc4;replace bJ:=BR.cell;replace bI:=BR.free;replace gu:=BR.lt
   replace B1:=aB.later (B1) hc4;replace cB1:=B1.cell;replace mE:=B1.free;replace lB1:=B1.lt
   replace B0:=aB.later (B0) hc4;replace cB0:=B0.cell;replace j4:=B0.free;replace lB0:=B0.lt
   go_wp2_with fail
   refine (iH _ b _ aH (Nat.le_trans KB.out zo) (HT.out.later aA)).mono ?_
   rintro e v5 ⟨rfl,kZ⟩
   replace Ht:=zh (aM.later Ht.out kZ)
   replace Hb:=zh (aM.later Hb.out kZ)
   replace BR:=aB.later (BR) kZ;replace bJ:=BR.cell;replace bI:=BR.free;replace gu:=BR.lt
   replace B1:=aB.later (B1) kZ;replace cB1:=B1.cell;replace mE:=B1.free;replace lB1:=B1.lt
   replace B0:=aB.later (B0) kZ;replace cB0:=B0.cell;replace j4:=B0.free;replace lB0:=B0.lt
   go_wp2_with fail
   refine ((eH _ t _ _ aH).mono (by rw [show je t (!(decide (n<0) == decide (d<0)))=s from Es.out];exact fun _ _ h=>h)).mono ?_
   rintro e v6 ⟨v,rfl,hc6,hv⟩
   obtain ⟨Pg,lHs,Qd,rfl,Hs⟩:=hv;replace Hs:=zh Hs
   replace Hb:=zh (aM.later Hb.out hc6)
   replace BR:=aB.later (BR) hc6;replace bJ:=BR.cell;replace bI:=BR.free;replace gu:=BR.lt
   go_wp2_with fail
   refine ((Fq _ s _ (aZ.aW aH) (Nat.le_trans KS.out zo) (HT.out.later aA)).mono (fun _ _ h=>by unfold sO at h;exact h)).mono ?_
   rintro e v7 ⟨rfl,Cy⟩
   replace Hb:=zh (aM.later Hb.out Cy)
   replace BR:=aB.later (BR) Cy;replace bJ:=BR.cell;replace bI:=BR.free;replace gu:=BR.lt
   go_wp2_with fail
   refine (qE _ b _ aH (Nat.le_trans KB.out zo) (HT.out.later aA)).mono ?_
   rintro e v8 ⟨rfl,hc8⟩
   replace BR:=aB.later (BR) hc8;replace bJ:=BR.cell;replace bI:=BR.free;replace gu:=BR.lt
   go_wp2_with fail
   refine aP rfl rfl aL Tryz.underlying36 rfl zk ?_
   exact ⟨rfl,aA⟩
theorem o8:(Tryz.prog.info? 99).map (fun i=>(i.zero,i.size,i.bytes))=some (some (.agg #[.slice none 0 0,.bool false]),2,32):=by kernel_rfl
theorem P5 (pa:Option Addr) (l ca:Nat) (b:Bool) (w:World):(Instr.field 99 (.agg #[.slice pa l ca,.bool b]) 0).run Tryz.prog w= .ok (.slice pa l ca) w:=by kernel_rfl
def Cu (w:World) (qs:List Rat) (e:Ending) (w':World):Prop:=∃ vt vb,e= .returned (.tuple #[vt,vb])∧Below w.heap.size w w'∧bZ w' vt (qs.map (jN (cK qs)))∧aM w' vb (cK qs)
theorem Ee (v:Value) (qs:List Rat) (T:TypeId) (w:World) (h:jI w T v (qs.map Fr.of)) (hq:∀ q∈qs,dA q=true) (hl:qs.length≤1000) :
  Calls Tryz.prog 78 #[v] w (Cu w qs):=by
 obtain ⟨i0,hi,hz0,hz1,hz2⟩:=info_parts o8
 obtain ⟨a,cap,rfl,hc1,hc2,hread⟩:=h.read
 have hln:(qs.map Fr.of).length=qs.length:=List.length_map _
 have Sz:∀ k (h:k<qs.length),∃ b off,a=some ⟨b,off,none⟩∧b<w.heap.size∧w.cell? ⟨b,off+k*2,none⟩=some (.string ⟨(Lib.itoa qs[k].num).toArray⟩)∧w.cell? ⟨b,off+k*2+1,none⟩=some (.string ⟨(Lib.itoa (qs[k].den:Int)).toArray⟩):=fun k hk=>by
  obtain ⟨b,off,e1,e2,e3,e4⟩:=hread k zo
  simp only [List.getElem_map] at e3 e4
  exact ⟨b,off,e1,e2,e3,e4⟩
 rw [hln] at hc1 ⊢
 have ME:=zh Sz
 have hlen:∀ k (h:k<qs.length),(Lib.decDigits qs[k].num.natAbs).length≤600∧(Lib.decDigits ((qs[k].den:Nat):Int).natAbs).length≤600:=fun k h=>by
  have hq1:=hq _ (List.getElem_mem h)
  unfold dA at hq1
  rw [Bool.and_eq_true,fE,fE] at hq1
  exact ⟨hq1.1,(Int.natAbs_natCast qs[k].den).symm ▸ hq1.2⟩
 have HLEN:=zh hlen
 have HSZ:Hid (∀ k,k≤qs.length→sz 1000000000 (cK (qs.take k))≤549755813888):=zh fun k hk=>by
  have:=rF (qs.take k) (fun q h=>hq q (List.mem_of_mem_take h))
  rw [List.length_take] at this
  omega
 have ay7:Hid (∀ k,0<cK (qs.take k)):=zh fun k=>(jD _).1
 have ah2:Hid (∀ k (h:k<qs.length),sz 1000000000 qs[k].den≤549755813888∧sz 1000000000 qs[k].num.natAbs≤549755813888):=zh fun k h=>by
  have:=gL (hq _ (List.getElem_mem h))
  exact ⟨Nat.le_trans this.2 zo,Nat.le_trans this.1 zo⟩
 have HDP:Hid (∀ k (h:k<qs.length),0<qs[k].den):=zh fun k h=>qs[k].den_pos
 clear hread Sz hlen hq h hln
 have hfd:=P5
 go_enter Tryz.func78,Tryz.ntmps78
 go_wp2_with fail
 go_loopw [13,3] (fun iv bv wr=>∃ k:Nat,iv= .int .i64 (k:Int)∧k≤qs.length∧Hid (aM wr bv (cK (qs.take k)))∧Below w.heap.size w wr) (fun iv _ _=>qs.length - (intOf iv).toNat)
 case atStart=>exact ⟨0,rfl,by omega,zh (show aM _ _ 1 from aM.lit (d:=1) zo zo),aA⟩
 case round =>
  obtain ⟨k,rfl,hk,HB,hb⟩:=hrel
  have hbm:=HB.out
  obtain ⟨pb,lb,cb,rfl⟩:=hbm.slice
  clear hbm
  rcases Nat.lt_or_ge k qs.length with hlt|hge
  ·obtain ⟨b,off,rfl,hbl,hx1,hx2⟩:=ME.out k hlt
   have cx1:=(hb.cell (p:=⟨b,off+k*2,none⟩) hbl).trans hx1
   have cx2:=(hb.cell (p:=⟨b,off+k*2+1,none⟩) hbl).trans hx2
   have HL2:=zh (HLEN.out k hlt).2
   have HS:=zh (HSZ.out k zo)
   have HP:=zh (ay7.out k)
   have HD:=zh (ah2.out k hlt).1
   have HT:=zh (Qc hlt)
   clear hx1 hx2
   generalize cK (qs.take k)=ck at *
   generalize qs[k]=q at *
   go_wp2_with fail
   refine (fM (q.den:Int) HL2.out _).mono ?_
   rintro e v1 ⟨v,rfl,hc1,hv⟩
   obtain ⟨KO,Zx,LZ,rfl,HN⟩:=hv;replace HN:=zh HN
   rw [Int.natAbs_natCast] at HN
   replace HB:=zh (aM.carry HB.out aH hc1)
   go_wp2_with fail
   refine ((Iz _ _ ck q.den _ aH aH HP.out HS.out HD.out).mono (by rw [← HT.out];exact fun _ _ h=>h)).mono ?_
   rintro e v2 ⟨v,rfl,hc2,hv⟩
   obtain ⟨Ph,lHM,Qe,rfl⟩:=hv.slice;have HM:=zh hv;clear hv
   go_wp2_with fail
   go_roundw
   case rel=>exact ⟨k+1,by go_num,by omega,HM,Bt hb aA⟩
   case measure=>exact zM
  ·obtain rfl:k=qs.length:=by omega
   rw [List.take_length] at HB
   have GN:=zh (jD qs).2
   have HP:=zh (ay7.out qs.length)
   have HS:=zh (HSZ.out qs.length (Nat.le_refl _))
   rw [List.take_length] at HP HS
   have HX:Hid (∀ (k:Nat) (h:k<qs.length),jN (cK qs) qs[k]=(qs.map (jN (cK qs))).getD k 0):=zh fun k h=>by simp [h]
   have HXL:Hid ((qs.map (jN (cK qs))).length=qs.length):=zh (List.length_map _)
   obtain ⟨xs,EXS⟩:∃ y:List Int,Hid (qs.map (jN (cK qs))=y):=⟨_,zh rfl⟩
   obtain ⟨D,YB⟩:∃ y:Nat,Hid (cK qs=y):=⟨_,zh rfl⟩
   rw [EXS.out] at HX HXL
   rw [YB.out] at HX HB GN HP HS
   go_wp2_with (at_make;refine wpList_make_full _ rfl _ _ 103 rfl w.heap.size 99 i0 (.agg #[.slice none 0 0,.bool false]) 2 Tryz.underlying103 hi hz0 hz1 _ _ _ _ qs.length rfl rfl zo zo (by rw [hz2];omega) (by unfold maxLen;omega) hb.size ?_)
   intro w1 hown hgrow
   have hbg:Below wr.heap.size wr w1:=(Below.refl _ _).grown hgrow (Nat.le_refl _) (fun k hk=>by cases hk)
   have HF:=zh (Fill.start (ok:=iF (fun i=>xs.getD i 0)) hown)
   replace HB:=zh (HB.out.later hbg)
   have hb1:Below w.heap.size w w1:=Bt hb hbg
   have hgb:w.heap.size≤wr.heap.size:=hb.size
   generalize wr.heap.size=G at *
   clear hown hgrow hbg hb
   go_wp2_with fail
   go_loopw [29] (fun iv wr2=>∃ k:Nat,iv= .int .i64 (k:Int)∧k≤qs.length∧Hid (Fill wr2 G 99 qs.length k (iF (fun i=>xs.getD i 0)))∧Hid (aM wr2 (.slice pb lb cb) D)∧Below w.heap.size w wr2) (fun iv _=>qs.length - (intOf iv).toNat)
   case atStart=>exact ⟨0,rfl,by omega,HF,HB,hb1⟩
   case round =>
    obtain ⟨k,rfl,hk,HF,HB,hb⟩:=hrel
    rcases Nat.lt_or_ge k qs.length with hlt|hge
    ·obtain ⟨b,off,rfl,hbl,hx1,hx2⟩:=ME.out k hlt
     have cx1:=(hb.cell (p:=⟨b,off+k*2,none⟩) hbl).trans hx1
     have cx2:=(hb.cell (p:=⟨b,off+k*2+1,none⟩) hbl).trans hx2
     have U5:=zh (HLEN.out k hlt).1
     have HL2:=zh (HLEN.out k hlt).2
     have HD1:=zh (ah2.out k hlt).1
     have HD2:=zh (ah2.out k hlt).2
     have HQ:=zh (HDP.out k hlt)
     have Yr:=zh (HX.out k hlt)
     have lG:=HF.out.lt
     clear hx1 hx2
     generalize qs[k]=q at *
     have hks:= @gF D q.den
     have HKS:=zh (Nat.le_trans hks HS.out)
     clear hks
     obtain ⟨c,Ec⟩:∃ y:Nat,Hid (D / q.den=y):=⟨_,zh rfl⟩
     have QN:Hid (q.num*(c:Int)=xs.getD k 0):=zh (by rw [← Yr.out,← Ec.out];rfl)
     rw [Ec.out] at HKS
     go_wp2_with fail
     refine (fM (q.den:Int) HL2.out _).mono ?_
     rintro e v1 ⟨v,rfl,hc1,hv⟩
     obtain ⟨KO,Zx,LZ,rfl,HN⟩:=hv;replace HN:=zh HN
     rw [Int.natAbs_natCast] at HN
     replace HB:=zh (aM.carry HB.out aH hc1)
     have hbx:=aB.later (aB.new _ _ _) hc1
     have cbx:=hbx.cell
     have lbx:=hbx.lt
     replace HF:=zh (HF.out.later (Bt aA hc1) (iF.later (Bt aA hc1)))
     go_wp2_with fail
     refine ((dD _ _ D q.den _ aH aH HQ.out HS.out).mono (by rw [Ec.out];exact fun _ _ h=>h)).mono ?_
     rintro e v2 ⟨v,vr,rfl,hc2,hv,jf⟩
     obtain ⟨aC8,lHC,aI3,rfl⟩:=hv.slice;have HC:=zh hv;clear hv
     obtain ⟨aK3,aT7,aM1,rfl⟩:=jf.slice;have HCr:=zh jf;clear jf
     clear HCr
     replace HB:=zh (HB.out.later hc2)
     replace hbx:=hbx.later hc2
     replace cbx:=hbx.cell
     replace lbx:=hbx.lt
     replace HF:=zh (HF.out.later hc2 (iF.later hc2))
     go_wp2_with fail
     refine (fM q.num U5.out _).mono ?_
     rintro e v3 ⟨v,rfl,hc3,hv⟩
     obtain ⟨Ph,lHM,Qe,rfl,HM⟩:=hv;replace HM:=zh HM
     replace HB:=zh (HB.out.later hc3)
     replace HC:=zh (HC.out.later hc3)
     replace HF:=zh (HF.out.later hc3 (iF.later hc3))
     go_wp2_with fail
     refine ((lK _ _ q.num c _ (aZ.aW aH) aH HD2.out HKS.out).mono (by rw [QN.out];exact fun _ _ h=>h)).mono ?_
     rintro e v4 ⟨v,rfl,hc4,hv⟩
     obtain ⟨FI,VQ,Gu,rfl,HV⟩:=hv;replace HV:=zh HV
     replace HB:=zh (HB.out.later hc4)
     replace HF:=zh (HF.out.later hc4 (iF.later hc4))
     obtain ⟨⟨y1,GY⟩,⟨y2,Yl⟩,fy⟩:=HF.out.cells hlt
     go_wp2_with fail
     have Nl:=HF.out.uS
     go_roundw
     case rel =>
      exact ⟨k+1,by go_num,by omega,zh (HF.out.step hlt (fun i x y h=>iF.lJ Nl.setCell zd _ _ _ (iF.lJ Nl zd _ _ _ h)) ⟨_,_,_,rfl,rfl,(HV.out.lJ Nl zd).lJ Nl.setCell zd⟩),
       zh ((HB.out.lJ Nl zd).lJ Nl.setCell zd),(by have hG:wr.heap.size≥0:=Nat.zero_le _;exact ((Bt (Bt (Bt (Bt (aN hb _) hc1) hc2) hc3) hc4).setCell hgb _).setCell hgb _)⟩
     case measure=>exact zM
    ·obtain rfl:k=qs.length:=by omega
     have hxl:=HXL.out
     have hfin:bZ wr (.slice (some ⟨G,0,none⟩) qs.length qs.length) xs:=by
      have:=HF.out
      rw [← hxl] at this ⊢
      exact bZ.uy this zo
     have ah1:=zh hfin
     clear hfin hxl
     go_wp2_with fail
     go_ret2
     exact ⟨_,_,rfl,hb,by rw [EXS.out];exact ah1.out,by rw [YB.out];exact HB.out⟩
def xO (w:World) (z:Int) (e:Ending) (w':World):Prop:=∃ v,e= .returned (.tuple #[v,.int .i64 0])∧Below w.heap.size w w'∧aZ w' v z
theorem WI (bx by':Nat) (vx vy:Value) (xs ys:List Int) (i:Nat) (w:World) (hx:bZ w vx xs) (hy:bZ w vy ys) (hbx:aB w bx #[vx] 103) (hby:aB w by' #[vy] 103)
  (h1:i<xs.length) (h2:i<ys.length) (k1:sz 1000000000 (xs.getD i 0).natAbs≤549755813888) (k2:sz 1000000000 (ys.getD i 0).natAbs≤549755813888) :
  Calls Tryz.prog 129 #[.int .i64 (i:Int),.pointer (some ⟨bx,0,none⟩),.pointer (some ⟨by',0,none⟩)] w (xO w (xs.getD i 0*ys.getD i 0)):=by
 obtain ⟨a,cap,rfl,hc1,hc2,hread⟩:=hx.read
 obtain ⟨a',cap',rfl,hc1',hc2',F8⟩:=hy.read
 obtain ⟨b,off,pa,n,ca,rfl,hbl,cx1,cx2,hm⟩:=hread i h1
 obtain ⟨b',off',pa',n',ca',rfl,Lu,GY,Yl,hm'⟩:=F8 i h2
 have H:=zh hm
 have H':=zh hm'
 have cbx:=hbx.cell
 have cby:=hby.cell
 have lx:=hbx.lt
 have ly:=hby.lt
 generalize xs.getD i 0=x at *
 generalize ys.getD i 0=u at *
 have K1:=zh k1
 have K2:=zh k2
 obtain ⟨z,Ez⟩:∃ y:Int,Hid (x*u=y):=⟨_,zh rfl⟩
 rw [Ez.out]
 clear hm hm' hread F8 hx hy k1 k2 hbx hby
 go_enter Tryz.func129,Tryz.ntmps129
 go_wp2_with fail
 refine aC [(.read,0),(.pure,1),(.pure,2),(.read,3),(.read,4),(.pure,5),(.pure,6),(.read,7),(.ext,8),(.fin,9),(.fin,10)] zk zk zR zP ?_
 repeat (first|(refine ah rfl rfl fun J h=>?_;go_simp;refine h _ ?_;clear h J)|(refine au rfl rfl rfl rfl fun J h=>?_;go_simp;refine h _ ?_;clear h J;try go_simp))
 refine aD rfl rfl (fun w1 hb1 J hJ=>?_);go_simp
 have BR:=aB.later (aB.drew (aB.new _ _ _)) hb1;have bJ:=BR.cell;have bI:=BR.free;have gu:=BR.lt
 refine ((om _ _ x u _ (aZ.aW aH) (aZ.aW aH) K1.out K2.out).mono (by rw [Ez.out];exact fun _ _ h=>h)).mono ?_
 rintro e v1 ⟨v,rfl,hc1,hv⟩
 obtain ⟨FI,VQ,Gu,rfl,HV⟩:=hv;replace HV:=zh HV
 replace BR:=aB.later (BR) hc1;replace bJ:=BR.cell;replace bI:=BR.free;replace gu:=BR.lt
 refine hJ _ _ hc1 ?_
 clear hJ J
 refine aJ [_,_] rfl (fun w5 hb5=>?_)
 replace BR:=aB.later (BR) hb5;replace bJ:=BR.cell;replace bI:=BR.free;replace gu:=BR.lt
 go_wp2_with fail
 refine aP rfl rfl aL Tryz.underlying99 rfl zk ?_
 exact ⟨_,rfl,aA,aZ.aW aH⟩
theorem WH (vx vy:Value) (x y:Int) (w:World) (hx:aZ w vx x) (hy:aZ w vy y) (k1:sz 1000000000 x.natAbs≤549755813888) (k2:sz 1000000000 y.natAbs≤549755813888) :
  Calls Tryz.prog 131 #[vx,vy] w (xO w (x+y)):=by
 obtain ⟨Iq,lH,Jy,rfl,H⟩:=hx;replace H:=zh H
 obtain ⟨Qz,lG,QL,rfl,G⟩:=hy;replace G:=zh G
 have K1:=zh k1
 have K2:=zh k2
 obtain ⟨z,Ez⟩:∃ z:Int,Hid (x+y=z):=⟨_,zh rfl⟩
 rw [Ez.out]
 clear k1 k2
 go_enter Tryz.func131,Tryz.ntmps131
 go_wp2_with fail
 refine ((vH _ _ x y _ (aZ.aW aH) (aZ.aW aH) K1.out K2.out).mono (by rw [Ez.out];exact fun _ _ h=>h)).mono ?_
 rintro e v1 ⟨v,rfl,hc1,hv⟩
 obtain ⟨FI,VQ,Gu,rfl,HV⟩:=hv;replace HV:=zh HV
 have BR:=aB.later (aB.at2 _ _ _ _ _) hc1;have bJ:=BR.cell;have bI:=BR.free;have gu:=BR.lt
 go_wp2_with fail
 refine aP rfl rfl aL Tryz.underlying99 rfl zk ?_
 exact ⟨_,rfl,aA,aZ.aW aH⟩
def q8 (f:Nat→Int):Nat→Int
 | 0=>0
 | k+1=>q8 f k+f k
theorem oV (f:Nat→Int) (K:Nat) (h:∀ j,sz 1000000000 (f j).natAbs≤K):∀ k,sz 1000000000 (q8 f k).natAbs≤K+k
 | 0=>by simp [q8,jk]
 | k+1=>by
  have h1:=oV f K h k
  have h2:=h k
  have h3:=qx (q8 f k) (f k)
  simp only [q8]
  omega
def xI (w:World) (z:Int) (e:Ending) (w':World):Prop:=∃ v,e= .returned (.tuple #[v,.int .i64 0])∧Below w.heap.size w w'∧aZ w' v z
theorem Vr (bx by':Nat) (vx vy:Value) (xs ys:List Int) (n:Nat) (w:World) (hx:bZ w vx xs) (hy:bZ w vy ys) (hbx:aB w bx #[vx] 103) (hby:aB w by' #[vy] 103)
  (h1:xs.length=n) (h2:ys.length=n) (h0:0<n) (hn:n≤1000) (k1:∀ i,sz 1000000000 (xs.getD i 0).natAbs≤1000000) (k2:∀ i,sz 1000000000 (ys.getD i 0).natAbs≤1000000) :
  Calls Tryz.prog 128 #[.int .i64 (n:Int),.func (.func 129) #[] #[.pointer (some ⟨bx,0,none⟩),.pointer (some ⟨by',0,none⟩)],.func (.func 131) #[] #[]] w (xI w (q8 (fun i=>xs.getD i 0*ys.getD i 0) n)):=by
 have HD:Hid (∀ i,i<n→∀ w',Below w.heap.size w w'→Calls Tryz.prog 129 #[.int .i64 (i:Int),.pointer (some ⟨bx,0,none⟩),.pointer (some ⟨by',0,none⟩)] w' (xO w' (xs.getD i 0*ys.getD i 0))) :=
  zh fun i hi w' hb=>WI bx by' vx vy xs ys i w' (hx.later hb) (hy.later hb) (hbx.later hb) (hby.later hb) zo zo (Nat.le_trans (k1 i) zo) (Nat.le_trans (k2 i) zo)
 obtain ⟨f,hf⟩:∃ f:Nat→Int,f=fun i=>xs.getD i 0*ys.getD i 0:=⟨_,rfl⟩
 have hfz:∀ i,sz 1000000000 (f i).natAbs≤2000000:=fun i=>by
  rw [hf]
  have:=jr (xs.getD i 0) (ys.getD i 0)
  have:=k1 i
  have:=k2 i
  simp only
  omega
 have HFZ:Hid (∀ i,sz 1000000000 (f i).natAbs≤549755813888):=zh fun i=>Nat.le_trans (hfz i) zo
 have HPZ:Hid (∀ i,i≤n→sz 1000000000 (q8 f i).natAbs≤549755813888):=zh fun i hi=>by
  have:=oV f _ hfz i
  omega
 have HD2:Hid (∀ i,i<n→∀ w',Below w.heap.size w w'→Calls Tryz.prog 129 #[.int .i64 (i:Int),.pointer (some ⟨bx,0,none⟩),.pointer (some ⟨by',0,none⟩)] w' (xO w' (f i))):=by
  rw [hf]
  exact HD
 rw [← hf]
 clear hf hfz HD hx hy hbx hby h1 h2 k1 k2
 have Yd:f 0=q8 f (0+1):=by simp [q8]
 have HP0:=zh Yd
 clear Yd
 go_enter Tryz.func128,Tryz.ntmps128
 go_wp2_with fail
 refine (HD2.out 0 h0 _ aA).mono ?_
 rintro e v1 ⟨v,rfl,hc1,hv⟩
 obtain ⟨FI,VQ,Gu,rfl,HV⟩:=hv;replace HV:=zh HV
 rw [HP0.out] at HV ⊢
 have BR:=aB.later (aB.alloc (aB.new _ _ _) _) hc1;have bJ:=BR.cell;have bI:=BR.free;have gu:=BR.lt
 go_wp2_with fail
 have hbt:=aB.new v1 #[.slice FI VQ Gu,.bool (decide (q8 f (0+1)<0))] 99
 have hbr:=BR.alloc (.cells #[.slice FI VQ Gu,.bool (decide (q8 f (0+1)<0))] 99 (0,0))
 have hbw:Below w.heap.size w v1:=Bt aA hc1
 have hnd:=gu
 clear BR bJ bI gu
 obtain ⟨B9,hB9⟩:∃ b,v1.heap.size=b:=⟨_,rfl⟩
 rw [hB9] at hbt hnd ⊢
 have HB9:=zh hB9
 clear hB9
 go_loopw [11] (fun iv wr=>∃ (k:Nat) (pa:Option Addr) (l ca:Nat),iv= .int .i64 (k:Int)∧1≤k∧k≤n∧Hid (aB wr B9 #[.slice pa l ca,.bool (decide (q8 f k<0))] 99)∧Hid (aM wr (.slice pa l ca) (q8 f k).natAbs)∧Hid (aB wr w.heap.size #[.slice none 0 0,.bool false] 99)∧Below w.heap.size w wr) (fun iv _=>n - (intOf iv).toNat)
 case atStart=>exact ⟨1,_,_,_,rfl,by omega,by omega,zh hbt,zh aH,zh hbr,aN hbw _⟩
 case round =>
  obtain ⟨k,pa,l,ca,rfl,hk1,hk2,HT,HM,HR,hb⟩:=hrel
  have ct:=HT.out.cell
  have ft:=HT.out.free
  have lt:=HT.out.lt
  have cr:=HR.out.cell
  have fr:=HR.out.free
  have lr:=HR.out.lt
  have hne:w.heap.size≠B9:=by omega
  have hne2:B9≠w.heap.size:=by omega
  rcases Nat.lt_or_ge k n with hlt|hge
  ·have HF:=zh (HFZ.out k)
   have HP:=zh (HPZ.out k zo)
   have HS:Hid (q8 f k+f k=q8 f (k+1)):=zh rfl
   go_wp2_with fail
   refine (HD2.out k hlt _ hb).mono ?_
   rintro e v2 ⟨v,rfl,hc2,hv⟩
   obtain ⟨aR5,lHX,aY0,rfl,HX⟩:=hv;replace HX:=zh HX
   have ht2:=HT.out.later hc2
   replace ct:=ht2.cell
   replace ft:=ht2.free
   replace lt:=ht2.lt
   have hr2:=HR.out.later hc2
   replace HM:=zh (HM.out.later hc2)
   go_wp2_with fail
   refine ((WH _ _ (q8 f k) (f k) _ (aZ.aW aH) (aZ.aW aH) HP.out HF.out).mono (by rw [HS.out];exact fun _ _ h=>h)).mono ?_
   rintro e v3 ⟨v,rfl,hc3,hv⟩
   obtain ⟨aR4,lHY,aX9,rfl,HY⟩:=hv;replace HY:=zh HY
   have ht3:=(ht2.alloc _).later hc3
   replace ct:=ht3.cell
   replace ft:=ht3.free
   replace lt:=ht3.lt
   have hr3:=(hr2.alloc _).later hc3
   have is3:=ht3.uS
   clear ht2 hr2 cr fr lr
   go_wp2_with fail
   go_roundw
   case rel =>
    refine ⟨k+1,_,_,_,by go_num,by omega,by omega,zh ((ht3.set 0 _).set 1 _),zh ((HY.out.lJ is3 zd).lJ is3.setCell zd),zh ((hr3.setOther _ hne).setOther _ hne),?_⟩
    exact ((Bt (aN (Bt hb hc2) _) hc3).setCell (by simp;omega) _).setCell (by simp;omega) _
   case measure=>exact zM
  ·obtain rfl:k=n:=by omega
   have isr:=HR.out.uS
   go_wp2_with fail
   refine aP rfl rfl ((HR.out.set 0 _).set 1 _) Tryz.underlying99 rfl zk ?_
   exact ⟨_,rfl,(hb.setCell zi _).setCell zi _,aZ.aW ((HM.out.lJ isr zd).lJ isr.setCell zd)⟩
def yE (xs ys:List Int):Int:=q8 (fun i=>xs.getD i 0*ys.getD i 0) xs.length
theorem TL (vx vy:Value) (xs ys:List Int) (w:World) (hx:bZ w vx xs) (hy:bZ w vy ys)
  (h2:ys.length=xs.length) (h0:0<xs.length) (hn:xs.length≤1000) (k1:∀ i,sz 1000000000 (xs.getD i 0).natAbs≤1000000) (k2:∀ i,sz 1000000000 (ys.getD i 0).natAbs≤1000000) :
  Calls Tryz.prog 68 #[vx,vy] w (fun e w'=>∃ v,e= .returned v∧Below w.heap.size w w'∧aZ w' v (yE xs ys)):=by
 obtain ⟨a,cap,rfl,hc1,hc2, -⟩:=hx.read
 obtain ⟨a',cap',rfl,hc1',hc2', -⟩:=hy.read
 have HS:Hid (∀ bx by' w',Below w.heap.size w w'→aB w' bx #[.slice a xs.length cap] 103→aB w' by' #[.slice a' ys.length cap'] 103→Calls Tryz.prog 128 #[.int .i64 (xs.length:Int),.func (.func 129) #[] #[.pointer (some ⟨bx,0,none⟩),.pointer (some ⟨by',0,none⟩)],.func (.func 131) #[] #[]] w' (xI w' (yE xs ys))) :=
  zh fun bx by' w' hb h3 h4=>Vr bx by' _ _ xs ys xs.length w' (hx.later hb) (hy.later hb) h3 h4 rfl h2 h0 hn k1 k2
 obtain ⟨z,Ez⟩:∃ z:Int,Hid (yE xs ys=z):=⟨_,zh rfl⟩
 rw [Ez.out] at HS ⊢
 clear hx hy k1 k2 h0 h2
 have Nq:∀ (fn:Fn) (first cap:Array Value) (w:World),(Instr.makeFunc fn first cap).run Tryz.prog w= .ok (.func fn first cap) w:=fun _ _ _ _=>rfl
 go_enter Tryz.func68,Tryz.ntmps68
 go_wp2_with fail
 refine (HS.out _ _ _ aA aL aL).mono ?_
 rintro e v1 ⟨v,rfl,hc1,hv⟩
 obtain ⟨FI,VQ,Gu,rfl,HV⟩:=hv;replace HV:=zh HV
 have BR:=aB.later (aB.at2 _ _ _ _ _) hc1;have bJ:=BR.cell;have bI:=BR.free;have gu:=BR.lt
 go_wp2_with fail
 refine bP rfl rfl aL Tryz.underlying99 rfl zk ?_
 exact ⟨_,rfl,aA,aZ.aW aH⟩
end Go.Proofs.matrix
namespace Go.Proofs.matrix
open Go Go.RowKit Go.Shelf Go.SW Go.Num Go.Mem Go.Proofs Go.Dec Go.dB
attribute [local go_sem] Oper.semAt_some
theorem Nn:(Tryz.prog.info? 103).map (fun i=>(i.zero,i.size,i.bytes))=some (some (.slice none 0 0),1,24):=by kernel_rfl
theorem VU:(Tryz.prog.info? 97).map (fun i=>(i.zero,i.size,i.bytes))=some (some (.slice none 0 0),1,24):=by kernel_rfl
abbrev RM:=List (List Rat)
def RM.fr (m:RM):List (List Fr):=m.map fun r=>r.map Fr.of
def iy (r:List Rat):List Int:=r.map (jN (cK r))
def ax9 (w:World) (v:Value) (m:RM):Prop:=∃ va na ca vb nb cb,v= .agg #[.slice va na ca,.slice vb nb cb]∧Ci w (.slice va na ca) (m.map iy)∧zw w (.slice vb nb cb) (m.map cK)
theorem aB.keep {l:List TypeId} {w w':World} {b:Nat} {cs:Array Value} {T:TypeId} (h:aB w b cs T) (k:Keep l w w') (hT:T∉l):aB w' b cs T:=k _ _ _ hT h
theorem yZ {w w':World} {base k:Nat} {e:TypeId} {s:Nat} {v:Value} {xs:List Value} (hown:w.ownsRow base e s v k xs) (hg:w.grownBy w' v.ownBlock):KeepsOthers w w' :=
 ⟨hg.size,fun i o hi ho=>by
  rw [hg.block i (Array.getElem?_eq_some_iff.1 hi).1 ?_]
  ·exact hi
  ·intro he
   obtain ⟨-, ⟨rfl, -⟩|⟨g,cap,cur,rfl, -, hgg, -⟩⟩:=hown
   ·cases he
   ·simp only [Value.ownBlock,Option.some.injEq] at he
    subst he
    rw [hi] at hgg
    cases hgg
    cases ho⟩
theorem EA {β γ:Type} {R:γ→β→Prop} (f:List Rat→γ) (m:RM) {n:Nat} (hn:n=m.length) {rs:List β} (h:jl (fun (i:Fin n) r=>R (f (m.getD i.1 [])) r) (upto n (Nat.le_refl _)) rs):jl R (m.map f) rs:=by
 obtain ⟨h1,h2⟩:=h
 rw [iP] at h1
 refine ⟨by rw [h1,hn,List.length_map],fun i hi hi'=>?_⟩
 have hin:i<n:=by rw [List.length_map] at hi;omega
 have:=h2 i (by rw [iP];exact hin) hi'
 have e:((upto n (Nat.le_refl _))[i]'(by rw [iP];exact hin))=⟨i,hin⟩:=by simp [upto]
 rw [e] at this
 have him:i<m.length:=by omega
 simpa [him] using this
def Oi (w:World) (Bt:Nat) (m:RM) (n:Nat) (pre:List (Fin n)) (W:World):Prop :=
 ∃ va na ca vb nb cb rs bs,aB W Bt #[.slice va na ca,.slice vb nb cb] 93∧W.ownsRow w.heap.size 103 1 (.slice va na ca) pre.length rs∧W.ownsRow w.heap.size 97 1 (.slice vb nb cb) pre.length bs ∧
  jl (fun (i:Fin n) r=>bZ W r (iy (m.getD i.1 []))) pre rs∧jl (fun (i:Fin n) r=>aM W r (cK (m.getD i.1 []))) pre bs
theorem Oi.kept {w:World} {Bt:Nat} {m:RM} {n:Nat} {pre:List (Fin n)} {W W':World} (h:Oi w Bt m n pre W) (k:Keep [] W W'):Oi w Bt m n pre W':=by
 obtain ⟨va,na,ca,vb,nb,cb,rs,bs,h1,h2,h3,h4,h5⟩:=h
 exact ⟨va,na,ca,vb,nb,cb,rs,bs,k _ _ _ zi h1,jc h2 k zi,jc h3 k zi,h4.mono fun _ _ h=>h.kept k zi zi,h5.mono fun _ _ h=>dB.aM.kept h k zi⟩
def UJ (n:Nat) (v:Value):Prop:=∀ pa k c s,v= .agg #[.slice (some pa) k c,s]→n≤pa.block
theorem I7 {w:World} {base k n c:Nat} {T:TypeId} {va:Option Addr} {s:Value} {xs:List Value} (h:w.ownsRow base T 1 (.slice va n c) k xs):UJ base (.agg #[.slice va n c,s]):=by
 intro pa k' c' s' e
 simp only [Value.agg.injEq] at e
 have e1:Value.slice va n c= .slice (some pa) k' c':=by
  have:=congrArg (fun a=>a[0]?) e
  simpa using this
 obtain ⟨-, ⟨h2, -⟩|⟨g,cap,cur,h3,h4, -⟩⟩:=h
 ·rw [e1] at h2;cases h2
 ·rw [e1] at h3
  simp only [Value.slice.injEq,Option.some.injEq] at h3
  rw [h3.1]
  exact h4
theorem Rq (v:Value) (m:RM) (w:World) (h:bO w v m.fr) (hm:m.length≤4) (hq:∀ r∈m,r.length≤4∧∀ q∈r,dA q=true) :
  Calls Tryz.prog 57 #[v] w fun e w'=>∃ v,e= .returned v∧Below w.heap.size w w'∧ax9 w' v m∧UJ w.heap.size v:=by
 obtain ⟨ir,ir1,ir2,ir3,ir4⟩:=info_parts Nn
 obtain ⟨im,im1,im2,im3,im4⟩:=info_parts VU
 obtain ⟨rs,hR,hlen,hF⟩:=h
 have hlm:rs.length=m.length:=hlen.trans (List.length_map _)
 have wD:Hid (∀ i (h:i<rs.length),jI w 36 rs[i] ((m.getD i []).map Fr.of)∧(m.getD i []).length≤4∧∀ q∈m.getD i [],dA q=true):=zh fun i hi=>by
  have him:i<m.length:=by omega
  have e:m.getD i []=m[i]:=by simp [him]
  rw [e]
  refine ⟨?_,hq _ (List.getElem_mem _)⟩
  have:=hF i hi (by rw [← hlen];exact hi)
  simpa [RM.fr] using this
 have HR:=zh hR
 have HLM:=zh hlm
 have hR2:=hR
 obtain ⟨a,cap,rfl, -⟩:=hR2
 clear hR hF hlen hlm hq
 refine (callsIn_wide (n:=3)).1 ?_
 refine callsIn_of_wp_marks Tryz.func57 rfl trivial ?_ rfl
 simp only [Tryz.ntmps57,List.size_toArray,List.length_cons,List.length_nil,Nat.reduceAdd,Nat.reduceSub,Array.replicate_succ,Array.replicate_zero,List.push_toArray,List.append_toArray,List.nil_append,List.cons_append]
 gi_wp2_with (refine ⟨trivial,?_⟩;gi_at_call 112;refine (Ao Fence.wide 2 trivial rfl _ _ _ _).mono ?_;rintro e w' ⟨rfl,rfl⟩)
 obtain ⟨W0,hW0⟩:∃ W0,((w.alloc (.cells #[.slice none 0 0,.slice none 0 0] 93)).alloc (.cells #[.slice none 0 0,.slice none 0 0] 93)).alloc (.cells #[.slice a rs.length cap] 44)=W0:=⟨_,rfl⟩
 have hB0:Below w.heap.size w W0:=by rw [← hW0];exact aA
 have hbx0:aB W0 w.heap.size #[.slice none 0 0,.slice none 0 0] 93:=by rw [← hW0];exact aL
 have zI:aB W0 (w.heap.size+1) #[.slice none 0 0,.slice none 0 0] 93:=by rw [← hW0];exact aL
 have zH:aB W0 (w.heap.size+1+1) #[.slice a rs.length cap] 44:=by rw [← hW0];exact aL
 rw [hW0]
 refine wpIn_rangeFunc_ownF (α:=Fin rs.length) rfl zo (gf:=164) (lb:=#[.pointer (some ⟨w.heap.size+1+1,0,none⟩)]) rfl trivial (enters_of Tryz.func164 zk rfl)
  (sj Fence.wide 2 trivial rfl zo (w.heap.size+1+1) w.heap.size _ rs w _ zH.lt hB0.size ((zH.cell 0).trans rfl) HR.out (Nat.le_refl _) hB0) belowK_t (belowK_b hB0.size) (Below.refl _ _) (fun _=>rfl)
  (fun pre W=>(Oi w (w.heap.size+1) m rs.length pre W∧aB W w.heap.size #[.slice none 0 0,.slice none 0 0] 93)∧Below w.heap.size w W)
  (fun _ _ _=>False)
  (OwnFrom.and (Own.from (fun s A B row hs hg hr=>⟨hs.1.kept (Keep.others hg hr),dQ hs.2 hg hr⟩) _) (ownFrom_below (Nat.le_refl _) hB0.size))
  (fun _ _ _ _ _ hs _ _=>hs)
  ⟨⟨⟨_,_,_,_,_,_,[],[],zI,World.ownsRow_nil _ _ _ _,World.ownsRow_nil _ _ _ _,jl.nil,jl.nil⟩,hbx0⟩,hB0⟩ ?a1 ?assign ?body ?done ?stop
 case assign =>
  intro l x W K hK
  unfold enc
  gi_wp2
  exact hK
 case body =>
  rintro l pre x W ⟨⟨hI,hb0⟩,hB⟩ hpl
  obtain ⟨va,na,ca,vb,nb,cb,xs,bs,hT,ho1,ho2,h4,h5⟩:=hI
  obtain ⟨hfr,hq1,hq2⟩:=wD.out x.1 x.2
  have hpn:pre.length<4:=by have:=HLM.out;omega
  have hx0:iy (m.getD x.1 [])=(m.getD x.1 []).map (jN (cK (m.getD x.1 []))):=rfl
  obtain ⟨a',cap',hre, -⟩:=hfr.read
  have HCM:=zh (Ee rs[x.1] (m.getD x.1 []) 36 W (hfr.later hB) hq2 zo)
  rw [hre] at HCM
  clear hfr hq1 hq2
  generalize rs[x.1]=rx at *
  subst hre
  unfold Cu at HCM
  rw [← hx0] at HCM
  have H4:=zh h4
  have H5:=zh h5
  have Xp:=zh ho1
  have mY:=zh ho2
  clear h4 h5 ho1 ho2 hx0
  have hlr:((m.getD x.1 []).map Fr.of).length=(m.getD x.1 []).length:=List.length_map _
  rw [hlr] at HCM ⊢
  have HX:Hid (∃ r:List Rat,m.getD x.1 []=r):=zh ⟨_,rfl⟩
  obtain ⟨r,hr⟩:=HX.out
  rw [hr] at HCM ⊢
  have HRR:=zh hr
  clear hr HX hlr
  gi_wp2_with (first
   | (refine ⟨trivial,?_⟩;gi_at_call 78;refine (CallsIn.inRound l (callsIn_wide.2 HCM.out)).mono ?_;rintro e w1 ⟨vt,vd,rfl,hc1,hv1,hv2⟩;obtain ⟨at',ct',rfl, -⟩:=hv1.read;obtain ⟨ad,nd,cd,rfl⟩:=hv2.slice;have HV1:=zh hv1;have zx:=zh hv2;clear hv1 hv2;have hT1:=hT.later hc1;have cT:=hT1.cell;have fT:=hT1.free;have lT:=hT1.lt)
   | (gi_at_builtin;refine wpListIn_append_own _ rfl (.tmp 18) (.tmp 20) 90 rfl w.heap.size 103 ir (.slice none 0 0) 1 24 Tryz.underlying90 ir1 ir2 ir3 ir4 rfl zd _ _ _ rfl ((vM Xp.out hc1).alloc _) ⟨w1.heap.size,0,none⟩ 1 1 [.slice at' (iy r).length ct'] rfl rfl (by intro t u ht;match t,ht with|0,ht=>simp at ht;subst ht;simp [Addr.add]) (by intro u hu;simp at hu;subst hu;rfl) (by unfold maxLen;omega) zo (by have:=hB.size;have:=hc1.size;simp;omega) ?_))
  intro v2 w2 hown2 hgrow2 _
  obtain ⟨g2,c2,rfl⟩:=ownsRow_succ hown2
  have k2:Keep [103] w1 w2:=Keep.trans (Keep.of_below aA) (Keep.grown ((vM Xp.out hc1).alloc _) hgrow2)
  have K2:Hid (Keep [103] W w2):=zh (Keep.trans (Keep.of_below hc1) k2)
  have Yc:=k2 _ _ _ zd hT1
  replace cT:=Yc.cell
  replace fT:=Yc.free
  replace lT:=Yc.lt
  have uS:=Yc.uS
  have Wu:Below w.heap.size w w1:=hB.trans (hc1.mono hB.size)
  have hbw2:Below w.heap.size w w2:=(aN Wu _).grown hgrow2 (by have:=Wu.size;simp;omega) (fun k hk=>(Xp.out.lt k hk).1)
  have ko2:KeepsOthers w1 w2:=(KeepsOthers.alloc _ _).trans (yZ ((vM Xp.out hc1).alloc _) hgrow2)
  have aH4:Below w.heap.size W w2:=(Below.alloc (hc1.mono hB.size) Wu.size _).grown hgrow2 (by have:=Wu.size;simp;omega) (fun k hk=>(Xp.out.lt k hk).1)
  have HW2:=zh hown2
  have KV:=zh k2
  have Uz:Hid ((w2.setCell ⟨w.heap.size+1,0,none⟩ (.slice (some ⟨g2,0,none⟩) (pre.length+1) c2)).ownsRow w.heap.size 97 1 (.slice vb nb cb) pre.length bs):=zh (jc (jc mY.out K2.out zd) (Keep.setCell uS) zd)
  have aP1:=hbw2.size
  clear hown2 hgrow2 k2 hT1
  gi_wp2_with (gi_at_builtin;refine wpListIn_append_own _ rfl (.tmp 24) (.tmp 26) 91 rfl w.heap.size 97 im (.slice none 0 0) 1 24 Tryz.underlying91 im1 im2 im3 im4 rfl zd _ _ _ rfl (Uz.out.alloc _) ⟨w2.heap.size,0,none⟩ 1 1 [.slice ad nd cd] rfl rfl (by intro t u ht;match t,ht with|0,ht=>(simp at ht;subst ht;exact ((aB.pW (b:=w2.heap.size) zi).cell 0).trans rfl)) (by intro u hu;simp at hu;subst hu;rfl) (by unfold maxLen;omega) zo (by simp;omega) ?_)
  intro v3 w3 hown3 hgrow3 _
  obtain ⟨g3,c3,rfl⟩:=ownsRow_succ hown3
  have k3:Keep [97] (w2.setCell ⟨w.heap.size+1,0,none⟩ (.slice (some ⟨g2,0,none⟩) (pre.length+1) c2)) w3:=Keep.trans (Keep.of_below aA) (Keep.grown (Uz.out.alloc _) hgrow3)
  have hT3:=k3 _ _ _ zd (Yc.set 0 (.slice (some ⟨g2,0,none⟩) (pre.length+1) c2))
  replace cT:=hT3.cell
  replace fT:=hT3.free
  replace lT:=hT3.lt
  have VR:=hT3.uS
  have aF7:Below w.heap.size w w3:=(aN (hbw2.setCell zi _) _).grown hgrow3 (by simp;omega) (fun k hk=>(Uz.out.lt k hk).1)
  have ko3:KeepsOthers (w2.setCell ⟨w.heap.size+1,0,none⟩ (.slice (some ⟨g2,0,none⟩) (pre.length+1) c2)) w3:=(KeepsOthers.alloc _ _).trans (yZ (Uz.out.alloc _) hgrow3)
  have aH3:Below w.heap.size W w3:=(Below.alloc (aH4.setCell zi _) (by simp;omega) _).grown hgrow3 (by simp;omega) (fun k hk=>(Uz.out.lt k hk).1)
  have HW3:=zh hown3
  have K3:Hid (Keep [97] (w2.setCell ⟨w.heap.size+1,0,none⟩ (.slice (some ⟨g2,0,none⟩) (pre.length+1) c2)) w3):=zh k3
  clear hown3 hgrow3 k3
  gi_wp2
  have aF6:=aB.keep (hb0.later hc1) KV.out zd
  have aF5:=aF6.setOther (.slice (some ⟨g2,0,none⟩) (pre.length+1) c2) (a:=⟨w.heap.size+1,0,none⟩) zi
  have aF4:=aB.keep aF5 K3.out zd
  have hbz:=aF4.setOther (.slice (some ⟨g3,0,none⟩) (pre.length+1) c3) (a:=⟨w.heap.size+1,1,none⟩) zi
  refine ⟨((((dG hc1).trans ko2).trans (KeepsOthers.setCell _ _ _)).trans ko3).trans (KeepsOthers.setCell _ _ _),aH3.setCell zi _,⟨⟨_,_,_,_,_,_,xs++[.slice at' (iy r).length ct'],bs++[.slice ad nd cd],hT3.set 1 _,?_,?_,?_,?_⟩,hbz⟩,aF7.setCell zi _⟩
  ·rw [List.length_append]
   exact jc (jc (jc HW2.out (Keep.setCell uS) zd) K3.out zd) (Keep.setCell VR) zd
  ·rw [List.length_append]
   exact jc HW3.out (Keep.setCell VR) zd
  ·have kk:Keep [103,93,97] w1 (w3.setCell ⟨w.heap.size+1,1,none⟩ (.slice (some ⟨g3,0,none⟩) (pre.length+1) c3)) :=
    (((KV.out.mono zi).trans ((Keep.setCell uS).mono zi)).trans (K3.out.mono zi)).trans ((Keep.setCell VR).mono zi)
   refine jl.snoc ((H4.out.mono fun _ _ h=>h.later hc1).mono fun _ _ h=>bZ.kept h kk zd zd) ?_
   rw [HRR.out]
   exact bZ.kept HV1.out kk zd zd
  ·have kk:Keep [103,93,97] w1 (w3.setCell ⟨w.heap.size+1,1,none⟩ (.slice (some ⟨g3,0,none⟩) (pre.length+1) c3)) :=
    (((KV.out.mono zi).trans ((Keep.setCell uS).mono zi)).trans (K3.out.mono zi)).trans ((Keep.setCell VR).mono zi)
   refine jl.snoc ((H5.out.mono fun _ _ h=>h.later hc1).mono fun _ _ h=>dB.aM.kept h kk zd) ?_
   rw [HRR.out]
   exact dB.aM.kept zx.out kk zd
 case done =>
  rintro D ys W hD rfl ⟨⟨hI,hb0⟩,hB⟩ hK
  obtain ⟨va,na,ca,vb,nb,cb,xs,bs,hT,ho1,ho2,h4,h5⟩:=hI
  have cT:=hT.cell
  have fT:=hT.free
  have c0:=hb0.cell
  have f0:=hb0.free
  have is0:=hb0.uS
  have H4:=zh (EA (R:=fun zs r=>bZ W r zs) iy m HLM.out h4)
  have H5:=zh (EA (R:=fun d r=>aM W r d) cK m HLM.out h5)
  have Xp:=zh (Row.dR ho1)
  have mY:=zh (Row.dR ho2)
  have HFT:=zh (I7 (s:=.slice vb nb cb) ho1)
  clear h4 h5 ho1 ho2
  gi_wp2
  have hK':=((KeepsOthers.setCell W ⟨w.heap.size,0,none⟩ (.slice va na ca)).trans (KeepsOthers.setCell _ ⟨w.heap.size,1,none⟩ (.slice vb nb cb))).same D _ hK rfl
  refine ⟨by simp,.inl ⟨_,_,rfl,run_takeDeferred hK',?_⟩⟩
  have hk5:Keep [93] W (((W.setCell ⟨w.heap.size,0,none⟩ (.slice va na ca)).setCell ⟨w.heap.size,1,none⟩ (.slice vb nb cb)).putObj D (.deferred none)) :=
   ((Keep.setCell is0).trans (Keep.setCell is0.setCell)).trans ((Keep.others (grownBy_putObj' _ D (.deferred none)) (fun r e=>by cases e;exact ⟨_,hK',rfl⟩)).mono zi)
  have hb3:=dQ ((hb0.set 0 (.slice va na ca)).set 1 (.slice vb nb cb)) (grownBy_putObj' _ D (.deferred none)) (fun r e=>by cases e;exact ⟨_,hK',rfl⟩)
  refine ⟨_,results_cell_row rfl _ _ w.heap.size 93 _ (0,0) _ rfl hb3 Tryz.underlying93 rfl zk,⟨_,rfl,?_,⟨_,_,_,_,_,_,rfl,⟨xs,dB.Row.kept Xp.out hk5 zd,H4.out.mono fun _ _ h=>bZ.kept h hk5 zd zd⟩,⟨bs,dB.Row.kept mY.out hk5 zd,H5.out.mono fun _ _ h=>dB.aM.kept h hk5 zd⟩⟩,HFT.out⟩⟩
  exact ((hB.setCell zi _).setCell zi _).trans (belowK_b (w:=w) (Nat.le_refl _) _ D _ _ (by have:=hB0.size;omega) hK' rfl rfl)
 case stop =>
  rintro D c pre W _ _ h _
  exact h.elim
theorem uq (v:Value) (m:RM) (w:World) (h:bO w v m.fr) (hm:m.length≤4) (hq:∀ r∈m,r.length≤4∧∀ q∈r,dA q=true) :
  Calls Tryz.prog 57 #[v] w fun e w'=>∃ v,e= .returned v∧Below w.heap.size w w'∧ax9 w' v m :=
 (Rq v m w h hm hq).mono fun _ _ ⟨v,h1,h2,h3,_⟩=>⟨v,h1,h2,h3⟩
attribute [local go_sem] Oper.semAt_some
def nH (w:World) (g:Nat) (T:TypeId) (n:Nat) (D:Nat→Prop) (f:Nat→Fr):Prop :=
 ∃ arr,aB w g arr T∧arr.size=n*2∧∀ i,i<n→D i→arr[i*2]? =some (.string (f i).n)∧arr[i*2+1]? =some (.string (f i).d)
theorem nH.kept {w w':World} {g:Nat} {T:TypeId} {n:Nat} {D:Nat→Prop} {f:Nat→Fr} (h:nH w g T n D f) (k:Keep [] w w'):nH w' g T n D f:=by
 obtain ⟨arr,h1,h2⟩:=h
 exact ⟨arr,k _ _ _ zi h1,h2⟩
theorem nH.cells {w:World} {g:Nat} {T:TypeId} {n j:Nat} {D:Nat→Prop} {f:Nat→Fr} (h:nH w g T n D f) (hj:j<n) :
  (∃ x,w.cell? ⟨g,j*2,none⟩=some x)∧(∃ y,w.cell? ⟨g,j*2+1,none⟩=some y)∧(∀ o,w.frozen? ⟨g,o,none⟩=false)∧g<w.heap.size:=by
 obtain ⟨arr,h1,h2,h3⟩:=h
 refine ⟨⟨arr[j*2]'zo,?_⟩,⟨arr[j*2+1]'zo,?_⟩,h1.free,h1.lt⟩
 ·rw [h1.cell];exact Array.getElem?_eq_getElem _
 ·rw [h1.cell];exact Array.getElem?_eq_getElem _
theorem nH.put {w:World} {g n j:Nat} {T:TypeId} {D D':Nat→Prop} {f:Nat→Fr} {s t:ByteArray} (h:nH w g T n D f) (hj:j<n) (hs:s=(f j).n) (ht:t=(f j).d) (hD:∀ i,D' i→i=j∨D i) :
  nH ((w.setCell ⟨g,j*2,none⟩ (.string s)).setCell ⟨g,j*2+1,none⟩ (.string t)) g T n D' f:=by
 subst hs ht
 obtain ⟨arr,h1,h2,h3⟩:=h
 refine ⟨(arr.setIfInBounds (j*2) (.string (f j).n)).setIfInBounds (j*2+1) (.string (f j).d),(h1.set _ _).set _ _,by simp [h2],fun i hi hd=>?_⟩
 by_cases e:i=j
 ·subst e
  refine ⟨?_,?_⟩
  ·rw [Array.getElem?_setIfInBounds,if_neg zo,Array.getElem?_setIfInBounds,if_pos rfl,if_pos zo]
  ·rw [Array.getElem?_setIfInBounds,if_pos rfl,if_pos (by simp;omega)]
 ·obtain ⟨k1,k2⟩:=h3 i hi ((hD i hd).resolve_left e)
  refine ⟨?_,?_⟩
  ·rw [Array.getElem?_setIfInBounds,if_neg zo,Array.getElem?_setIfInBounds,if_neg zo,k1]
  ·rw [Array.getElem?_setIfInBounds,if_neg zo,Array.getElem?_setIfInBounds,if_neg zo,k2]
theorem nH.start {w:World} {base g n:Nat} {T:TypeId} {z:Array Value} {f:Nat→Fr} (h:w.ownsRow base T 2 (.slice (some ⟨g,0,none⟩) n n) n (madeCells z (n*2)).toList):nH w g T n (fun _=>False) f:=by
 obtain ⟨arr,h1,h2, -⟩:=Fill.start (ok:=xR f) h
 exact ⟨arr,h1,h2,fun i _ h=>h.elim⟩
theorem nH.zL {w:World} {g n:Nat} {T:TypeId} {D:Nat→Prop} {l:List Fr} (h:nH w g T n D (fun i=>l.getD i Fr.no)) (hD:∀ i,i<n→D i) (hn:l.length=n) (hl:n≤1000000):jI w T (.slice (some ⟨g,0,none⟩) n n) l:=by
 obtain ⟨arr,h1,h2,h3⟩:=h
 refine Fill.zL ⟨arr,h1,h2,fun i hi=>?_⟩ hn hl
 obtain ⟨k1,k2⟩:=h3 i hi (hD i hi)
 exact ⟨_,_,k1,k2,rfl,rfl⟩
theorem getD_lt {α:Type} {l:List α} {c:Nat} {d:α} (h:c<l.length):l.getD c d=l[c]:=by simp [h]
def Dk (m:List (List Fr)) (c:Nat):List Fr:=m.map fun r=>r.getD c Fr.no
theorem nH.xY {w:World} {g n:Nat} {T:TypeId} {cs:Array Value} {f:Nat→Fr} (h:aB w g cs T) (hs:cs.size=n*2):nH w g T n (fun _=>False) f:=⟨cs,h,hs,fun i _ h=>h.elim⟩
theorem wR (n:Nat) (hn:n≤1000):∃ cs:Array Value,cs.size=n*2∧∀ W:World,(Instr.makeSlice 56 (.int .i64 (n:Int)) (.int .i64 (n:Int))).run Tryz.prog W= .ok (.slice (some ⟨W.heap.size,0,none⟩) n n) (W.alloc (.cells cs 36)):=by
 obtain ⟨i0,hi,hz0,hz1,hz2⟩:=info_parts ny
 refine ⟨madeCells (Value.agg #[.string ⟨#[]⟩,.string ⟨#[]⟩]).cells (n*2),size_madeCells _ _,fun W=>?_⟩
 have:=run_makeSlice (P:=Tryz.prog) W 56 36 i0 (.agg #[.string ⟨#[]⟩,.string ⟨#[]⟩]) Tryz.underlying56 hi hz0 .i64 .i64 (n:Int) (n:Int) zo (Int.le_refl _) (by rw [hz1];simp;omega) (by rw [hz2];omega) zo
 rw [hz1] at this
 simpa using this
theorem Au (bm c:Nat) (v:Value) (m:List (List Fr)) (w:World) (h:bO w v m) (hb:aB w bm #[v] 44) (hm:m.length≤4) (hc:∀ r∈m,c<r.length) :
  Calls Tryz.prog 126 #[.int .i64 (c:Int),.pointer (some ⟨bm,0,none⟩)] w (fun e w'=>∃ v',e= .returned v'∧Below w.heap.size w w'∧jI w' 36 v' (Dk m c)):=by
 obtain ⟨i0,hi,hz0,hz1,hz2⟩:=info_parts ny
 obtain ⟨rs,hR,hlen,hF⟩:=h
 obtain ⟨f,Ef⟩:∃ f:Nat→Fr,Hid ((fun i=>(Dk m c).getD i Fr.no)=f):=⟨_,zh rfl⟩
 have wD:Hid (∀ i (h:i<rs.length),jI w 36 rs[i] (m.getD i [])∧c<(m.getD i []).length∧f i=(m.getD i []).getD c Fr.no):=zh fun i hi=>by
  have him:i<m.length:=by omega
  have e:m.getD i []=m[i]:=by simp [him]
  rw [e]
  exact ⟨hF i hi him,hc _ (List.getElem_mem _),by rw [← Ef.out];simp [Dk,him]⟩
 have HCL:Hid ((Dk m c).length=rs.length):=zh (by rw [hlen];simp [Dk])
 have HR:=zh hR
 obtain ⟨a,cap,rfl, -⟩:=hR
 have HLM:Hid (rs.length≤4):=zh zo
 have hl4:rs.length≤4:=by omega
 have cbm:=hb.cell
 have lbm:=hb.lt
 have aS7:bm<w.heap.size+1:=by omega
 have aS6:bm<w.heap.size+1+1:=by omega
 have Qs:=zh hb
 clear hF hlen hc hb
 refine (callsIn_wide (n:=3)).1 ?_
 refine callsIn_of_wp_marks Tryz.func126 rfl trivial ?_ rfl
 simp only [Tryz.ntmps126,List.size_toArray,List.length_cons,List.length_nil,Nat.reduceAdd,Nat.reduceSub,Array.replicate_succ,Array.replicate_zero,List.push_toArray,List.append_toArray,List.nil_append,List.cons_append]
 obtain ⟨cs,hcs,hmk⟩:=wR rs.length zo
 have MH:=zh hcs
 clear hcs
 gi_wp2_with (refine ⟨trivial,?_⟩;gi_at_call 112;refine (Ao Fence.wide 2 trivial rfl _ _ _ _).mono ?_;rintro e w' ⟨rfl,rfl⟩)
 clear hmk
 obtain ⟨W0,hW0⟩:∃ W0,(((w.alloc (.cells #[.int .i64 (c:Int)] 3)).alloc (.cells cs 36)).alloc (.cells #[.slice (some ⟨w.heap.size+1,0,none⟩) rs.length rs.length] 56)).alloc (.cells #[.slice a rs.length cap] 44)=W0:=⟨_,rfl⟩
 have hB0:Below w.heap.size w W0:=by rw [← hW0];exact aA
 have hbx0:aB W0 w.heap.size #[.int .i64 (c:Int)] 3:=by rw [← hW0];exact aL
 have zI:aB W0 (w.heap.size+1) cs 36:=by rw [← hW0];exact aL
 have zH:aB W0 (w.heap.size+1+1) #[.slice (some ⟨w.heap.size+1,0,none⟩) rs.length rs.length] 56:=by rw [← hW0];exact aL
 have Tg:aB W0 (w.heap.size+1+1+1) #[.slice a rs.length cap] 44:=by rw [← hW0];exact aB.at3 _ _ _ _ _ _
 rw [hW0]
 clear hW0 cbm
 refine wpIn_rangeFunc_ownF (α:=Fin rs.length) rfl zo (gf:=164) (lb:=#[.pointer (some ⟨w.heap.size+1+1+1,0,none⟩)]) rfl trivial (enters_of Tryz.func164 zk rfl)
  (sj Fence.wide 2 trivial rfl zo (w.heap.size+1+1+1) w.heap.size _ rs w _ Tg.lt hB0.size ((Tg.cell 0).trans rfl) HR.out (Nat.le_refl _) hB0) belowK_t (belowK_b hB0.size) (Below.refl _ _) (fun _=>rfl)
  (fun pre W=>(nH W (w.heap.size+1) 36 rs.length (fun i=>∃ x∈pre,x.1=i) f∧aB W w.heap.size #[.int .i64 (c:Int)] 3∧aB W (w.heap.size+1+1) #[.slice (some ⟨w.heap.size+1,0,none⟩) rs.length rs.length] 56)∧Below w.heap.size w W)
  (fun _ _ _=>False)
  (OwnFrom.and (Own.from (fun s A B row hs hg hr=>⟨hs.1.kept (Keep.others hg hr),dQ hs.2.1 hg hr,dQ hs.2.2 hg hr⟩) _) (ownFrom_below (Nat.le_refl _) hB0.size))
  (fun _ _ _ _ _ hs _ _=>hs)
  ⟨⟨?f0,hbx0,zH⟩,hB0⟩ ?a1 ?assign ?body ?done ?stop
 case f0 =>
  obtain ⟨arr,k1,k2,k3⟩:=nH.xY (f:=f) zI MH.out
  exact ⟨arr,k1,k2,fun i hi ⟨x,hx,_⟩=>by cases hx⟩
 case assign =>
  intro l x W K hK
  unfold enc
  gi_wp2
  exact hK
 case body =>
  rintro l pre x W ⟨⟨hF,hb0,hb2⟩,hB⟩ hpl
  obtain ⟨hfr,hcl,av1⟩:=wD.out x.1 x.2
  obtain ⟨a',cap',hre,aV4,aV3,hread⟩:=hfr.read
  obtain ⟨b,off,rfl,lb,hx1,hx2⟩:=hread c hcl
  have cx1:=(hB.cell (p:=⟨b,off+c*2,none⟩) lb).trans hx1
  have cx2:=(hB.cell (p:=⟨b,off+c*2+1,none⟩) lb).trans hx2
  have hgd:(m.getD x.1 [])[c]=f x.1:=(av1.trans (getD_lt hcl)).symm
  rw [hgd] at cx1 cx2
  have c0:=hb0.cell
  have c2:=hb2.cell
  have lbW:=Nat.lt_of_lt_of_le lb hB.size
  have qP:=x.2
  have HF:=zh hF
  obtain ⟨s1,Oz⟩:∃ s:ByteArray,Hid ((f x.1).n=s):=⟨_,zh rfl⟩
  obtain ⟨s2,Oy⟩:∃ s:ByteArray,Hid ((f x.1).d=s):=⟨_,zh rfl⟩
  rw [Oz.out] at cx1
  rw [Oy.out] at cx2
  clear hfr av1 hread hx1 hx2 hgd hF
  generalize rs[x.1]=rx at *
  subst hre
  generalize (m.getD x.1 []).length=n' at *
  refine wpIn_block ?_
  refine xU [(.read,0),(.pure,1),(.pure,2),(.read,3),(.pure,4),(.read,5),(.pure,6),(.fin,7)] zk zk zk zR (fun ⟨_,_,h⟩=>h) (fun _ _ _ _ _ h=>h) ?_
  repeat (first|(refine ah rfl rfl fun J h=>?_;go_simp;refine h _ ?_;clear h J)|(refine au rfl rfl rfl rfl fun J h=>?_;go_simp;refine h _ ?_;clear h J;try go_simp))
  refine aJ [_] rfl (fun w2 hbd=>?_)
  have hb2':Below W.heap.size W w2:=iQ (Below.drew (Below.refl _ _)) hbd
  have hF2:=HF.out.kept (Keep.of_below hb2')
  have HF2:=zh hF2
  obtain ⟨⟨y1,GY⟩,⟨y2,Yl⟩,fy,ly⟩:=hF2.cells qP
  have aH2:=hb0.later hb2'
  have aH1:=aB.later hb2 hb2'
  clear hF2
  go_wp2_with fail
  refine ⟨((dG hb2').trans (KeepsOthers.setCell _ _ _)).trans (KeepsOthers.setCell _ _ _),((hb2'.mono hB.size).setCell zi _).setCell zi _,⟨HF2.out.put qP Oz.out.symm Oy.out.symm ?_,(aH2.setOther _ zi).setOther _ zi,(aH1.setOther _ zi).setOther _ zi⟩,((hB.trans (hb2'.mono hB.size)).setCell zi _).setCell zi _⟩
  rintro i ⟨y,hy,rfl⟩
  rcases List.mem_append.1 hy with h|h
  ·exact .inr ⟨y,h,rfl⟩
  ·rw [List.mem_singleton] at h
   exact .inl (by rw [h])
 case done =>
  rintro D ys W hD rfl ⟨⟨hF,hb0,hb2⟩,hB⟩ hK
  have c2:=hb2.cell
  have HF:=zh hF
  clear hF
  gi_wp2
  refine ⟨by simp,.inl ⟨_,_,rfl,run_takeDeferred hK,?_⟩⟩
  have hF2:=HF.out.kept (Keep.others (grownBy_putObj' _ D (.deferred none)) (fun r e=>by cases e;exact ⟨_,hK,rfl⟩))
  refine ⟨.slice (some ⟨w.heap.size+1,0,none⟩) rs.length rs.length,?_,_,rfl,hB.trans (belowK_b (w:=w) (Nat.le_refl _) W D _ _ (by have:=hB0.size;omega) hK rfl rfl),?_⟩
  ·simp [results,Tryz.f126,go_sem]
  ·rw [← Ef.out] at hF2
   exact hF2.zL (fun i hi=>⟨⟨i,hi⟩,by unfold upto;rw [List.mem_ofFn];exact ⟨⟨i,hi⟩,rfl⟩,rfl⟩) HCL.out (by have:=HLM.out;omega)
 case stop =>
  rintro D c pre W _ _ h _
  exact h.elim
theorem bO.first {w:World} {v:Value} {m:List (List Fr)} (h:bO w v m) (h0:0<m.length) :
  ∃ b off cap a0 cap0,v= .slice (some ⟨b,off,none⟩) m.length cap∧m.length≤cap∧b<w.heap.size∧w.cell? ⟨b,off,none⟩=some (.slice a0 (m.headD []).length cap0):=by
 obtain ⟨rs,hR,hlen,hF⟩:=h
 rcases hR.cases with ⟨rfl,rfl⟩|⟨b,off,cap,arr,rfl,k1,k2,k3,k4⟩
 ·simp at hlen;omega
 ·have h0r:0<rs.length:=by omega
  obtain ⟨a0,cap0,e0, -⟩:=(hF 0 h0r zo).read
  refine ⟨b,off,cap,a0,cap0,by rw [hlen],by omega,k3.lt,?_⟩
  have:=(k3.cell (off+0)).trans (k4 0 h0r)
  rw [e0] at this
  cases m with
  | nil=>simp at h0
  | cons r t=>simpa using this
theorem wQ (n:Nat) (hn:n≤1000):∃ cs:Array Value,cs.size=n∧∀ W:World,(Instr.makeSlice 44 (.int .i64 (n:Int)) (.int .i64 (n:Int))).run Tryz.prog W= .ok (.slice (some ⟨W.heap.size,0,none⟩) n n) (W.alloc (.cells cs 56)):=by
 obtain ⟨i0,hi,hz0,hz1,hz2⟩:=info_parts Sv
 refine ⟨madeCells (Value.slice none 0 0).cells n,size_madeCells _ _,fun W=>?_⟩
 have:=run_makeSlice (P:=Tryz.prog) W 44 56 i0 (.slice none 0 0) Tryz.underlying44 hi hz0 .i64 .i64 (n:Int) (n:Int) zo (Int.le_refl _) (by rw [hz1];simp;omega) (by rw [hz2];omega) zo
 rw [hz1] at this
 simpa using this
theorem gB.xY {w:World} {g n:Nat} {cs:Array Value} {f:Nat→List Fr} (h:aB w g cs 56) (hs:cs.size=n):gB w g n 0 f:=⟨cs,h,hs,fun i h=>by omega⟩
def kI (m:List (List Fr)) (n:Nat):List (List Fr):=(List.range n).map (Dk m)
theorem CU (v:Value) (m:List (List Fr)) (n:Nat) (w:World) (h:bO w v m) (h1:1≤m.length) (h4:m.length≤4) (n4:n≤4) (hn:∀ r∈m,r.length=n) :
  Calls Tryz.prog 66 #[v] w (fun e w'=>∃ v',e= .returned v'∧Below w.heap.size w w'∧bO w' v' (kI m n)):=by
 obtain ⟨b,off,cap,a0,cap0,rfl,hcap,lb,hc0⟩:=bO.first h zo
 have hhd:(m.headD []).length=n:=by
  cases m with
  | nil=>simp at h1
  | cons r t=>exact hn r zi
 rw [hhd] at hc0
 have HT:=zh (fun bm c w' (hb:Below w.heap.size w w') (hc:c<n) (hx:aB w' bm #[.slice (some ⟨b,off,none⟩) m.length cap] 44)=>Au bm c _ m w' (h.later hb) hx h4 (fun r hr=>by rw [hn r hr];exact hc))
 obtain ⟨cs,hcs,hmk⟩:=wQ n zo
 have MH:=zh hcs
 have lb1:b<w.heap.size+1:=by omega
 have Nq:∀ (fn:Fn) (first cap:Array Value) (w:World),(Instr.makeFunc fn first cap).run Tryz.prog w= .ok (.func fn first cap) w:=fun _ _ _ _=>rfl
 have h0m:0<m.length:=by omega
 have HN4:=zh n4
 clear h hn hcs
 go_enter Tryz.func66,Tryz.ntmps66
 go_wp2_with fail
 obtain ⟨W0,hW0⟩:∃ W0,(w.alloc (.cells #[.slice (some ⟨b,off,none⟩) m.length cap] 44)).alloc (.cells cs 56)=W0:=⟨_,rfl⟩
 have hB0:Below w.heap.size w W0:=by rw [← hW0];exact aA
 have HX0:Hid (aB W0 w.heap.size #[.slice (some ⟨b,off,none⟩) m.length cap] 44):=zh (by rw [← hW0];exact aL)
 have zI:aB W0 (w.heap.size+1) cs 56:=by rw [← hW0];exact aL
 have HM:=zh (gB.xY (f:=Dk m) zI MH.out)
 rw [hW0]
 clear hW0 zI hmk
 go_loopw [14] (fun iv wr=>∃ c:Nat,iv= .int .i64 (c:Int)∧c≤n∧Hid (gB wr (w.heap.size+1) n c (Dk m))∧Hid (aB wr w.heap.size #[.slice (some ⟨b,off,none⟩) m.length cap] 44)∧Below w.heap.size w wr) (fun iv _=>n - (intOf iv).toNat)
 case atStart=>exact ⟨0,rfl,by omega,HM,HX0,hB0⟩
 case round =>
  clear HM HX0 hB0
  obtain ⟨c,rfl,hcn,HM,HX,hb⟩:=hrel
  have lM:=HM.out.lt
  rcases Nat.lt_or_ge c n with hlt|hge
  ·have hlt2:(c:Int)<(n:Int):=by omega
   go_wp2_with fail
   refine (HT.out _ c _ hb hlt HX.out).mono ?_
   rintro e w2 ⟨v',rfl,hc2,hfr⟩
   obtain ⟨a',cap',rfl, -⟩:=hfr.read
   have wD:=zh hfr
   have hM2:=HM.out.later hc2
   obtain ⟨⟨y1,GY⟩,fy⟩:=hM2.cell hlt
   have MG:=zh hM2
   have lM2:=hM2.lt
   have isM:=hM2.uS
   have hx2:=HX.out.later hc2
   clear hM2 hfr
   go_wp2_with fail
   go_roundw
   case rel =>
    refine ⟨c+1,by go_num,by omega,zh (MG.out.step hlt ((gY.refl w2 _).set c _) (fun arr hA=>hA.set c _) (wD.out.kept (Keep.setCell isM) zd)),zh (hx2.setOther _ zi),(Bt hb hc2).setCell zi _⟩
   case measure=>exact zM
  ·have hnc:n=c:=by omega
   subst hnc
   have hmv:bO wr (.slice (some ⟨w.heap.size+1,0,none⟩) n n) (kI m n):=by
    have e1:(kI m n).length=n:=by simp [kI]
    have:bO wr (.slice (some ⟨w.heap.size+1,0,none⟩) (kI m n).length (kI m n).length) (kI m n):=by
     refine gB.zC ?_ (by have:=HN4.out;omega)
     rw [e1]
     obtain ⟨arr,k1,k2,k3⟩:=HM.out
     refine ⟨arr,k1,k2,fun i hi=>?_⟩
     have e2:(kI m n).getD i []=Dk m i:=by simp [kI,hi]
     show ∃ v,arr[i]? =some v∧jI wr 36 v ((kI m n).getD i [])
     rw [e2]
     exact k3 i hi
    rw [e1] at this
    exact this
   have vY:=zh hmv
   clear hmv
   go_wp2_with fail
   go_ret
   exact ⟨_,rfl,hb,vY.out⟩
end Go.Proofs.matrix
namespace Go.Proofs.matrix
open Go Go.RowKit Go.SW Go.Num Go.Mem Go.Proofs Go.Dec Go.dB
theorem FE (f:Nat→Int):∀ n,q8 f n=wK f n
 | 0=>rfl
 | n+1=>by simp only [q8,wK];rw [FE f n]
theorem ap3:(Tryz.prog.info? 36).map (fun i=>(i.zero,i.size,i.bytes))=some (some (.agg #[.string ⟨#[]⟩,.string ⟨#[]⟩]),2,32):=by kernel_rfl
def tY (w:World) (xs:List Rat) (e:Ending) (w':World):Prop :=
 (xs.all dA=true∧∃ vo,e= .returned (.tuple #[vo,.int .i64 0])∧Below w.heap.size w w'∧jI w' 36 vo (xs.map Fr.of)) ∨
 (xs.all dA=false∧e= .returned (.tuple #[.slice none 0 0,.int .i64 6])∧Below w.heap.size w w')
def RM.ok (m:RM) (n:Nat):Prop:=1≤m.length∧m.length≤4∧1≤n∧n≤4∧∀ r∈m,r.length=n∧∀ q∈r,dA q=true
theorem Gt {qs:List Rat} (h:∀ q∈qs,dA q=true):dP (qs.map Fr.of)=0:=by
 unfold dP
 rw [if_pos]
 rw [List.all_eq_true]
 intro a ha
 obtain ⟨q,hq,rfl⟩:=List.mem_map.1 ha
 rw [iX (h q hq)]
 rfl
theorem RM.ok.zn {m:RM} {n:Nat} (h:m.ok n):oI m.fr=0:=by
 obtain ⟨h1,h2,h3,h4,h5⟩:=h
 unfold oI
 rw [if_pos]
 unfold FL RM.fr
 cases m with
 | nil=>simp at h1
 | cons r t =>
  have hr:=h5 r zi
  simp only [List.map_cons,List.headD_cons,List.length_map,Bool.and_eq_true,decide_eq_true_eq]
  refine ⟨⟨⟨⟨by simp,by simpa using h2⟩,by omega⟩,by omega⟩,?_⟩
  rw [List.all_eq_true]
  intro x hx
  have key:∀ s∈r::t,((s.map Fr.of).length == r.length&&dP (s.map Fr.of) == 0)=true:=fun s hs=>by
   have hs2:=h5 s hs
   rw [Gt hs2.2,List.length_map,hs2.1,hr.1]
   simp
  rcases List.mem_cons.1 hx with rfl|hx
  ·exact key r zi
  ·obtain ⟨s,hs,rfl⟩:=List.mem_map.1 hx
   exact key s (by simp [hs])
theorem bO.head {w:World} {v:Value} {m:RM} (h:bO w v m.fr) (h0:0<m.length) :
  ∃ b off cap a0 cap0,v= .slice (some ⟨b,off,none⟩) m.length cap∧b<w.heap.size∧w.cell? ⟨b,off,none⟩=some (.slice a0 (m.headD []).length cap0):=by
 obtain ⟨rs,hR,hlen,hF⟩:=h
 have hl:m.fr.length=m.length:=List.length_map _
 rcases hR.cases with ⟨rfl,rfl⟩|⟨b,off,cap,arr,rfl,k1,k2,k3,k4⟩
 ·simp at hlen;omega
 ·have h0r:0<rs.length:=by omega
  obtain ⟨a0,cap0,e0, -⟩:=(hF 0 h0r zo).read
  refine ⟨b,off,cap,a0,cap0,by rw [hlen,hl],k3.lt,?_⟩
  have:=(k3.cell (off+0)).trans (k4 0 h0r)
  rw [e0] at this
  cases m with
  | nil=>simp at h0
  | cons r t=>simpa [RM.fr] using this
theorem Cr {w:World} {g:Nat} {T:TypeId} {n k:Nat} {f:Nat→Fr} (h:Fill w g T n k (xR f)) {a:Addr} (u:Value) (hne:g≠a.block):Fill (w.setCell a u) g T n k (xR f):=by
 obtain ⟨arr,h1,h2,h3⟩:=h
 exact ⟨arr,h1.setOther u hne,h2,h3⟩
theorem rJ {w:World} {va:Option Addr} {na ca:Nat} {xss:List (List Int)} (h:Ci w (.slice va na ca) xss) :
  na=xss.length∧∀ k (_:k<xss.length),∃ b off pa n cc,va=some ⟨b,off,none⟩∧b<w.heap.size∧w.cell? ⟨b,off+k,none⟩=some (.slice pa n cc)∧bZ w (.slice pa n cc) xss[k]:=by
 obtain ⟨rs,hR,hl,hF⟩:=h
 rcases hR.cases with ⟨h1,h2⟩|⟨b,off,cap,arr,h1, -, -, h4,h5⟩
 ·simp only [Value.slice.injEq] at h1
  subst h2
  have hl0:0=xss.length:=hl
  exact ⟨by omega,fun k hk=>absurd hk zo⟩
 ·simp only [Value.slice.injEq] at h1
  refine ⟨by rw [h1.2.1,hl],fun k hk=>?_⟩
  have hk2:k<rs.length:=by omega
  have hi:=hF k hk hk2
  obtain ⟨pa,cc,e, -⟩:=hi.read
  refine ⟨b,off,pa,_,cc,h1.1,h4.lt,?_,e ▸ hi⟩
  rw [h4.cell,h5 k hk2,e]
theorem rP {w:World} {va:Option Addr} {na ca:Nat} {ds:List Nat} (h:zw w (.slice va na ca) ds) :
  na=ds.length∧∀ k (_:k<ds.length),∃ b off pa n cc,va=some ⟨b,off,none⟩∧b<w.heap.size∧w.cell? ⟨b,off+k,none⟩=some (.slice pa n cc)∧aM w (.slice pa n cc) ds[k]:=by
 obtain ⟨rs,hR,hl,hF⟩:=h
 rcases hR.cases with ⟨h1,h2⟩|⟨b,off,cap,arr,h1, -, -, h4,h5⟩
 ·simp only [Value.slice.injEq] at h1
  subst h2
  have hl0:0=ds.length:=hl
  exact ⟨by omega,fun k hk=>absurd hk zo⟩
 ·simp only [Value.slice.injEq] at h1
  refine ⟨by rw [h1.2.1,hl],fun k hk=>?_⟩
  have hk2:k<rs.length:=by omega
  have hi:=hF k hk hk2
  obtain ⟨pa,n,cc,e⟩:=hi.slice
  refine ⟨b,off,pa,n,cc,h1.1,h4.lt,?_,e ▸ hi⟩
  rw [h4.cell,h5 k hk2,e]
theorem Ca (v vl:Value) (m:RM) (qs:List Rat) (T:TypeId) (w:World) (h:bO w v m.fr) (hl:jI w T vl (qs.map Fr.of)) (hm:m.ok qs.length) (hq:∀ q∈qs,dA q=true) (ht:pR.Pow w) :
  Calls Tryz.prog 33 #[v,vl] w (tY w (m.map fun r=>dK r qs)):=by
 have hm2:=hm
 obtain ⟨m1,m4,n1,n4,hrows⟩:=hm2
 obtain ⟨i0,hi,hz0,hz1,hz2⟩:=info_parts ap3
 obtain ⟨b,off,cap,a0,cap0,rfl,lb,hc0⟩:=bO.head h zo
 have hw0:(m.headD []).length=qs.length:=by
  cases m with
  | nil=>simp at m1
  | cons r t=>exact (hrows r zi).1
 rw [hw0] at hc0
 obtain ⟨al,af7,rfl,Te,PO, -⟩:=hl.read
 have QU:=zh (fun w' hb=>gD _ m.fr w' (h.later hb))
 rw [hm.zn] at QU
 have UF:=zh (fun w' hb=>nR _ (qs.map Fr.of) T w' (hl.later hb))
 rw [Gt hq] at UF
 have ME:=zh (fun w' hb=>uq _ m w' (h.later hb) m4 (fun r hr=>⟨by have:=(hrows r hr).1;omega,(hrows r hr).2⟩))
 have HCM:=zh (fun w' hb=>Ee _ qs T w' (hl.later hb) hq zo)
 have hln:(qs.map Fr.of).length=qs.length:=List.length_map _
 rw [hln] at UF HCM Te ⊢
 have ay3:=zh hrows
 have HQ:=zh hq
 have HT:=zh ht
 clear h hl hm hq ht hrows hw0 hln
 have h0m:0<m.length:=by omega
 go_enter Tryz.func33,Tryz.ntmps33
 go_wp2_with fail
 refine (QU.out _ (Below.refl _ _)).mono ?_
 rintro e v1 ⟨rfl,hc1⟩
 go_wp2_with fail
 refine (UF.out _ hc1).mono ?_
 rintro e v2 ⟨rfl,hc2⟩
 have c0:=((Bt hc1 hc2).cell (p:=⟨b,off,none⟩) lb).trans hc0
 go_wp2_with fail
 refine (ME.out _ (Bt hc1 hc2)).mono ?_
 rintro e v3 ⟨vt,rfl,hc3,htab⟩
 obtain ⟨va,na,ca,vb,nb,cb,rfl,hrw,hmg⟩:=htab
 have HRW:=zh hrw
 have HMG:=zh hmg
 clear hrw hmg
 go_wp2_with fail
 refine (HCM.out _ (aN (Bt (Bt hc1 hc2) hc3) _)).mono ?_
 rintro e v4 ⟨vtt,vd,rfl,hc4,hv1,hv2⟩
 obtain ⟨at',ct',rfl, -⟩:=hv1.read
 obtain ⟨ad,nd,cd,rfl⟩:=hv2.slice
 have XL:=(aB.new v3 #[.slice va na ca,.slice vb nb cb] 93).later hc4
 have hbv:Below v3.heap.size v3 v4:=Bt (aN (Below.refl _ _) _) hc4
 replace HRW:=zh (HRW.out.later hbv)
 replace HMG:=zh (HMG.out.later hbv)
 have HVT:=zh hv1
 have HVD:=zh hv2
 have hbw:Below w.heap.size w v4:=Bt (Bt (Bt hc1 hc2) hc3) hbv
 have htl:(qs.map (jN (cK qs))).length=qs.length:=List.length_map _
 rw [htl] at HVT ⊢
 obtain ⟨B8,hB8⟩:∃ x,v3.heap.size=x:=⟨_,rfl⟩
 rw [hB8] at XL ⊢
 have HX8:=zh XL
 clear hv1 hv2 hbv XL hB8 htl
 go_wp2_with (at_make;refine wpList_make_full _ rfl _ _ 56 rfl w.heap.size 36 i0 (.agg #[.string ⟨#[]⟩,.string ⟨#[]⟩]) 2 Tryz.underlying56 hi hz0 hz1 _ _ _ _ m.length rfl rfl zo zo (by rw [hz2];omega) (by unfold maxLen;omega) hbw.size ?_)
 intro w5 hown hgrow
 have hb5:Below v4.heap.size v4 w5:=(Below.refl _ _).grown hgrow (Nat.le_refl _) (fun k hk=>by cases hk)
 have HF:=zh (Fill.start (ok:=xR (fun i=>Fr.of (dK (m.getD i []) qs))) hown)
 have hG:w.heap.size≤v4.heap.size:=hbw.size
 obtain ⟨hna,aq9⟩:=rJ HRW.out
 obtain ⟨hnb,aq8⟩:=rP HMG.out
 have hl1:(m.map iy).length=m.length:=List.length_map _
 have hl2:(m.map cK).length=m.length:=List.length_map _
 rw [hl1] at hna
 rw [hl2] at hnb
 subst hna hnb
 have HR1:=zh aq9
 have HR2:=zh aq8
 clear hown hgrow aq9 aq8 hl1 hl2 HRW HMG
 go_wp2_with fail
 go_loopw [44] (fun iv wr=>∃ k:Nat,iv= .int .i64 (k:Int)∧k≤m.length∧Hid (Fill wr v4.heap.size 36 m.length k (xR (fun i=>Fr.of (dK (m.getD i []) qs))))∧Hid (∀ i,i<k→dA (dK (m.getD i []) qs)=true)∧Below v4.heap.size v4 wr) (fun iv _=>m.length - (intOf iv).toNat)
 case atStart=>exact ⟨0,rfl,by omega,HF,zh (fun i h=>by omega),hb5⟩
 case round =>
  obtain ⟨k,rfl,hk,HF,HK,hb⟩:=hrel
  have XL:=HX8.out.later hb
  have c8:=XL.cell
  have l8:=XL.lt
  rcases Nat.lt_or_ge k m.length with hlt|hge
  ·obtain ⟨b1,off1,p1,n1,d1,rfl,e2,e3,e4⟩:=HR1.out k (by rw [List.length_map];exact hlt)
   obtain ⟨b2,off2,p2,n2,d2,rfl,f2,f3,f4⟩:=HR2.out k (by rw [List.length_map];exact hlt)
   have cr:=(hb.cell (p:=⟨b1,off1+k,none⟩) e2).trans e3
   have cm:=(hb.cell (p:=⟨b2,off2+k,none⟩) f2).trans f3
   have hlt2:(k:Int)<(m.length:Int):=by omega
   have hrow:=ay3.out m[k] (List.getElem_mem _)
   have hgd:m.getD k []=m[k]:=by simp [hlt]
   simp only [List.getElem_map] at e4 f4
   have H4:=zh (e4.later hb)
   have G4:=zh (f4.later hb)
   have V3:=HVT.out.later hb
   have aI6:=zh V3
   have Xl:=zh (HVD.out.later hb)
   have Xn:=zh hrow
   have HGD:=zh hgd
   have lG:=HF.out.lt
   clear e2 e3 e4 f2 f3 f4 hrow hgd V3
   generalize m[k]=r at *
   have hrl:=Xn.out.1
   have htl:(iy r).length=r.length:=List.length_map _
   have Qr:=zh (fun w' hb=>TL _ _ (iy r) (qs.map (jN (cK qs))) w' (H4.out.later hb) (aI6.out.later hb) (by rw [htl,List.length_map,hrl]) zo zo
    (fun i=>Nat.le_trans (nQ Xn.out.2 zo i) zo) (fun i=>Nat.le_trans (nQ HQ.out n4 i) zo))
   have hcr:=rF r Xn.out.2
   have hcq:=rF qs HQ.out
   have hpr:=(jD r).1
   have hpq:=(jD qs).1
   have hprod:=Nat.mul_pos hpr hpq
   have hsp:=qV (B:=1000000000) zo (cK r) (cK qs)
   have Bu:=TN (r:=r) (s:=qs) hrl.symm
   have KR:=zh (show sz 1000000000 (cK r)≤1099511627776 by omega)
   have KQ:=zh (show sz 1000000000 (cK qs)≤1099511627776 by omega)
   have hz1:sz 1000000000 (yE (iy r) (qs.map (jN (cK qs)))).natAbs≤549755813888:=by
    unfold yE
    have:=oV (fun i=>(iy r).getD i 0*(qs.map (jN (cK qs))).getD i 0) 2000 (fun i=>by
     have h1:=jr ((iy r).getD i 0) ((qs.map (jN (cK qs))).getD i 0)
     have h2:=nQ Xn.out.2 zo i
     have h3:=nQ HQ.out n4 i
     unfold iy at *
     omega) (iy r).length
    omega
   have hzd:yE (iy r) (qs.map (jN (cK qs)))=wK (fun i=>(r.map (jN (cK r))).getD i 0*(qs.map (jN (cK qs))).getD i 0) r.length:=by
    unfold yE
    rw [htl,FE]
    rfl
   rw [← hzd] at Bu
   obtain ⟨z,EZ⟩:∃ x:Int,Hid (yE (iy r) (qs.map (jN (cK qs)))=x):=⟨_,zh rfl⟩
   obtain ⟨D,ED⟩:∃ x:Nat,Hid (cK r*cK qs=x):=⟨_,zh rfl⟩
   rw [EZ.out] at Qr hz1 Bu
   rw [ED.out] at hprod hsp Bu
   have KZ:=zh hz1
   have KD:Hid (sz 1000000000 ((D:Nat):Int).natAbs≤549755813888):=zh (by rw [Int.natAbs_natCast];omega)
   have ND:Hid (((D:Nat):Int)≠0):=zh zo
   have SD:Hid (je D false=((D:Nat):Int)):=zh rfl
   have HW:Hid ((z:Rat) / ((((D:Nat):Int)):Rat)=dK r qs):=zh (by rw [Rat.intCast_natCast];exact Bu)
   clear hrl htl hcr hcq hpr hpq hprod hsp Bu hz1 hzd
   obtain ⟨q,EQ⟩:∃ x:Rat,Hid (dK r qs=x):=⟨_,zh rfl⟩
   rw [EQ.out] at HW
   go_wp2_with fail
   refine aC [(.pure,0),(.read,1),(.pure,2),(.pure,3),(.read,4),(.pure,5),(.pure,7),(.read,8),(.pure,9),(.pure,10),(.read,11),(.pure,12),(.ext,6),(.ext,13),(.ext,14),(.ext,15),(.pure,16),(.pure,17),(.pure,18),(.alloc #[.string ⟨#[]⟩,.string ⟨#[]⟩] 36,19),(.fin,20),(.fin,21)] zk zk zR zP ?_
   repeat (first|(refine ah rfl rfl fun J h=>?_;go_simp;refine h _ ?_;clear h J)|(refine au rfl rfl rfl rfl fun J h=>?_;go_simp;refine h _ ?_;clear h J;try go_simp))
   refine aD rfl rfl (fun w11 zJ J hJ=>?_);go_simp
   replace G4:=zh (aM.carry G4.out aH zJ)
   replace Xl:=zh (aM.carry Xl.out aH zJ)
   refine (Qr.out _ aA).mono ?_
   rintro e v11 ⟨v,rfl,uU,hv⟩
   obtain ⟨ao5,lHz,ax6,rfl,Hz⟩:=hv;replace Hz:=zh Hz
   replace G4:=zh (aM.later G4.out uU)
   replace Xl:=zh (aM.later Xl.out uU)
   refine hJ _ _ uU ?_
   clear hJ J
   refine aD rfl rfl (fun w12 eZ J hJ=>?_);go_simp
   replace Hz:=zh (aM.later Hz.out eZ)
   refine ((jm _ _ (cK r) (cK qs) _ aH aH KR.out KQ.out).mono (by rw [ED.out];exact fun _ _ h=>h)).mono ?_
   rintro e v12 ⟨v,rfl,Dh,hv⟩
   obtain ⟨ao6,lHm,ax7,rfl⟩:=hv.slice;have Hm:=zh hv;clear hv
   replace Hz:=zh (aM.later Hz.out Dh)
   refine hJ _ _ Dh ?_
   clear hJ J
   refine aD rfl rfl (fun w13 fA J hJ=>?_);go_simp
   replace Hz:=zh (aM.later Hz.out fA)
   refine ((eH _ D false _ aH).mono (by rw [SD.out];exact fun _ _ h=>h)).mono ?_
   rintro e v13 ⟨v,rfl,Ws,hv⟩
   obtain ⟨Pg,lHs,Qd,rfl,Hs⟩:=hv;replace Hs:=zh Hs
   replace Hz:=zh (aM.later Hz.out Ws)
   refine hJ _ _ Ws ?_
   clear hJ J
   have hq2:dA q=true∨dA q=false:=by cases dA q<;>simp
   rcases hq2 with hq2|hq2
   ·have Ot:Hid (Fr.res (dB.wr q)= .tuple #[.agg #[.string (Fr.of q).n,.string (Fr.of q).d],.int .i64 0]):=zh (by unfold dB.wr;rw [if_pos hq2];rfl)
    have CB:=zh hq2
    clear hq2
    obtain ⟨s1,Oz⟩:∃ x:ByteArray,Hid ((Fr.of q).n=x):=⟨_,zh rfl⟩
    obtain ⟨s2,Oy⟩:∃ x:ByteArray,Hid ((Fr.of q).d=x):=⟨_,zh rfl⟩
    rw [Oz.out,Oy.out] at Ot
    refine aD rfl rfl (fun XE IZ J hJ=>?_);go_simp
    refine ((jO _ _ z ((D:Nat):Int) _ (aZ.aW aH) (aZ.aW aH) ND.out KZ.out KD.out (HT.out.later aA)).mono (by rw [HW.out,Ot.out];exact fun _ _ h=>h)).mono ?_
    rintro e v14 ⟨rfl,ab6⟩
    refine hJ _ _ ab6 ?_
    clear hJ J
    repeat (first|(refine ah rfl rfl fun J h=>?_;go_simp;refine h _ ?_;clear h J)|(refine au rfl rfl rfl rfl fun J h=>?_;go_simp;refine h _ ?_;clear h J;try go_simp))
    refine aQ rfl (fun b13 w6 Px D5 SH Yf eX=>?_);go_simp;replace eX:aB _ _ _ _:=eX;have Nt:w.heap.size≤b13:=(by first|omega|exact Nat.le_trans (Below.size (B:=w.heap.size) aA) D5)
    refine aJ [_,_] rfl (fun w7 dY=>?_)
    replace eX:=aB.later (eX) dY;replace BU:=eX.cell;replace BK:=eX.free;replace Bh:=eX.lt
    replace HF:Hid (Fill w7 v4.heap.size 36 m.length k (xR (fun i=>Fr.of (dK (m.getD i []) qs)))):=zh (HF.out.later aA (fun _ _ _ h=>h))
    have hN:wr.heap.size≤b13:=D5
    have ne1:v4.heap.size≠b13:=by omega
    have ne2:b13≠v4.heap.size:=by omega
    obtain ⟨⟨y1,GY⟩,⟨y2,Yl⟩,fy⟩:=HF.out.cells hlt
    have hF2:=zh (Cr (Cr HF.out (a:=⟨b13,0,none⟩) (.string s1) ne1) (a:=⟨b13,1,none⟩) (.string s2) ne1)
    have dY:Below v4.heap.size v4 w7:=aA
    have hle:v4.heap.size≤b13:=by omega
    go_wp2_with fail
    go_roundw
    case rel =>
     refine ⟨k+1,by go_num,by omega,zh (hF2.out.step hlt (fun _ _ _ h=>h) ⟨?_,?_⟩),zh fun i hi=>?_,(((dY.setCell hle _).setCell hle _).setCell (Nat.le_refl _) _).setCell (Nat.le_refl _) _⟩
     ·show Value.string s1= .string (Fr.of (dK (m.getD k []) qs)).n
      rw [HGD.out,EQ.out,Oz.out]
     ·show Value.string s2= .string (Fr.of (dK (m.getD k []) qs)).d
      rw [HGD.out,EQ.out,Oy.out]
     ·rcases Nat.lt_or_ge i k with h|h
      ·exact HK.out i h
      ·obtain rfl:i=k:=by omega
       rw [HGD.out,EQ.out]
       exact CB.out
    case measure=>exact zM
   ·have Ot:Hid (Fr.res (dB.wr q)= .tuple #[.agg #[.string ⟨#[]⟩,.string ⟨#[]⟩],.int .i64 6]):=zh (rY hq2)
    have hbad:(m.map fun r=>dK r qs).all dA=false:=by
     rw [List.all_eq_false]
     have hkm:k<(m.map fun r=>dK r qs).length:=by rw [List.length_map];exact hlt
     refine ⟨(m.map fun r=>dK r qs)[k],List.getElem_mem _,?_⟩
     have e1:(m.map fun r=>dK r qs)[k]=dK (m.getD k []) qs:=by simp [hlt]
     rw [e1,HGD.out,EQ.out,hq2]
     simp
    have HBAD:=zh hbad
    clear hq2 hbad
    refine aD rfl rfl (fun XE IZ J hJ=>?_);go_simp
    refine ((jO _ _ z ((D:Nat):Int) _ (aZ.aW aH) (aZ.aW aH) ND.out KZ.out KD.out (HT.out.later aA)).mono (by rw [HW.out,Ot.out];exact fun _ _ h=>h)).mono ?_
    rintro e v14 ⟨rfl,ab6⟩
    refine hJ _ _ ab6 ?_
    clear hJ J
    repeat (first|(refine ah rfl rfl fun J h=>?_;go_simp;refine h _ ?_;clear h J)|(refine au rfl rfl rfl rfl fun J h=>?_;go_simp;refine h _ ?_;clear h J;try go_simp))
    refine aQ rfl (fun b13 w6 Px D5 SH Yf eX=>?_);go_simp;replace eX:aB _ _ _ _:=eX;have Nt:w.heap.size≤b13:=(by first|omega|exact Nat.le_trans (Below.size (B:=w.heap.size) aA) D5)
    refine aJ [_,_] rfl (fun w7 dY=>?_)
    replace eX:=aB.later (eX) dY;replace BU:=eX.cell;replace BK:=eX.free;replace Bh:=eX.lt
    have aG0:Below w.heap.size w w7:=aA
    go_wp2_with fail
    go_ret2
    exact .inr ⟨HBAD.out,rfl,(aG0.setCell Nt _).setCell Nt _⟩
  ·obtain rfl:k=m.length:=by omega
   have hall:(m.map fun r=>dK r qs).all dA=true:=by
    rw [List.all_eq_true]
    intro q hq
    obtain ⟨i,hi,rfl⟩:=List.getElem_of_mem hq
    have hi2:i<m.length:=by rw [List.length_map] at hi;exact hi
    have:=HK.out i hi2
    simpa [hi2] using this
   have hfr:jI wr 36 (.slice (some ⟨v4.heap.size,0,none⟩) m.length m.length) ((m.map fun r=>dK r qs).map Fr.of):=by
    have hll:((m.map fun r=>dK r qs).map Fr.of).length=m.length:=by simp
    have au3:Fill wr v4.heap.size 36 ((m.map fun r=>dK r qs).map Fr.of).length ((m.map fun r=>dK r qs).map Fr.of).length (xR fun i=>((m.map fun r=>dK r qs).map Fr.of).getD i Fr.no):=by
     rw [hll]
     obtain ⟨arr,g1,g2,g3⟩:=HF.out
     refine ⟨arr,g1,g2,fun i hi=>?_⟩
     obtain ⟨x,y,y1,y2,y3,y4⟩:=g3 i hi
     refine ⟨x,y,y1,y2,?_⟩
     have e:((m.map fun r=>dK r qs).map Fr.of).getD i Fr.no=Fr.of (dK (m.getD i []) qs):=by simp [hi]
     exact ⟨by show x= .string (((m.map fun r=>dK r qs).map Fr.of).getD i Fr.no).n;rw [e];exact y3,by show y= .string (((m.map fun r=>dK r qs).map Fr.of).getD i Fr.no).d;rw [e];exact y4⟩
    have:=jI.uy au3 (by rw [hll];omega)
    rw [hll] at this
    exact this
   have wD:=zh hfr
   have Co:=zh hall
   clear hfr hall
   go_wp2_with fail
   go_ret2
   exact .inl ⟨Co.out,_,rfl,Bt hbw hb,wD.out⟩
def Gr (m:RM) (c:Nat):List Rat:=m.map fun r=>r.getD c 0
def jM (m:RM) (n:Nat):RM:=(List.range n).map (Gr m)
def iY (a b:RM) (n:Nat):RM:=a.map fun r=>(List.range n).map fun c=>dK r (Gr b c)
def gX (m:RM):Bool:=m.all fun r=>r.all dA
theorem Dv {m:RM} {n:Nat} (h:m.ok n):kI m.fr n=(jM m n).fr:=by
 obtain ⟨-, -, -, -, h5⟩:=h
 unfold kI jM RM.fr
 rw [List.map_map]
 refine List.map_congr_left fun c hc=>?_
 have hcn:c<n:=List.mem_range.1 hc
 unfold Dk Gr
 simp only [Function.comp,List.map_map]
 refine List.map_congr_left fun r hr=>?_
 have:=(h5 r hr).1
 simp [this,hcn]
theorem Jo {m:RM} {n:Nat} (h:m.ok n):(jM m n).ok m.length:=by
 obtain ⟨h1,h2,h3,h4,h5⟩:=h
 refine ⟨by simp [jM];omega,by simp [jM];omega,h1,h2,fun r hr=>?_⟩
 obtain ⟨c,hc,rfl⟩:=List.mem_map.1 hr
 have hcn:c<n:=List.mem_range.1 hc
 refine ⟨by simp [Gr],fun q hq=>?_⟩
 obtain ⟨s,hs,rfl⟩:=List.mem_map.1 hq
 obtain ⟨k1,k2⟩:=h5 s hs
 have e:s.getD c 0=s[c]'zo:=by simp [k1,hcn]
 rw [e]
 exact k2 _ (List.getElem_mem _)
theorem IB (va vb:Value) (ma mb:RM) (n:Nat) (w:World) (ha:bO w va ma.fr) (hb:bO w vb mb.fr) (RO:ma.ok mb.length) (UW:mb.ok n) (ht:pR.Pow w) :
  Calls Tryz.prog 25 #[va,vb] w (aS w (if gX (iY ma mb n) then 0 else 6) (iY ma mb n).fr):=by
 have KW:=RO
 obtain ⟨a1,a4,b1,b4,oD⟩:=RO
 have VF:=UW
 obtain ⟨_,_,n1,n4,Lp⟩:=UW
 obtain ⟨ba,Zk,aH7,a0,cap0,rfl,lba,ca0⟩:=bO.head ha zo
 obtain ⟨bb,ao8,aW4,b0,aL1,rfl,Sl,cb0⟩:=bO.head hb zo
 have hwa:(ma.headD []).length=mb.length:=by
  cases ma with
  | nil=>simp at a1
  | cons r t=>exact (oD r zi).1
 have hwb:(mb.headD []).length=n:=by
  cases mb with
  | nil=>simp at b1
  | cons r t=>exact (Lp r zi).1
 rw [hwa] at ca0
 rw [hwb] at cb0
 have QU:=zh (fun w' hx=>gD _ ma.fr w' (ha.later hx))
 rw [KW.zn] at QU
 have UF:=zh (fun w' hx=>gD _ mb.fr w' (hb.later hx))
 rw [VF.zn] at UF
 have xP:=zh (fun w' hx=>uq _ ma w' (ha.later hx) a4 (fun r hr=>⟨by have:=(oD r hr).1;omega,(oD r hr).2⟩))
 have HTR:=zh (fun w' hx=>CU _ mb.fr n w' (hb.later hx) (by simpa [RM.fr] using b1) (by simpa [RM.fr] using b4) n4 (fun r hr=>by
  obtain ⟨s,hs,rfl⟩:=List.mem_map.1 hr
  simpa using (Lp s hs).1))
 rw [Dv VF] at HTR
 have M7:=Jo VF
 obtain ⟨mc,Emc⟩:∃ y:RM,Hid (jM mb n=y):=⟨_,zh rfl⟩
 have hcl:mc.length=n:=by rw [← Emc.out];simp [jM]
 have hcg:∀ c,c<n→mc.getD c []=Gr mb c:=fun c hc=>by rw [← Emc.out];simp [jM,hc]
 rw [Emc.out] at HTR M7
 have HRC:=zh (fun v w' (hx:bO w' v mc.fr)=>uq v mc w' hx zo (fun r hr=>⟨by have:=(M7.2.2.2.2 r hr).1;omega,(M7.2.2.2.2 r hr).2⟩))
 obtain ⟨E,EE⟩:∃ E:Nat→Nat→Rat,E=fun i c=>dK (ma.getD i []) (mc.getD c []):=⟨_,rfl⟩
 have J6:Hid (∀ i,i<ma.length→(iY ma mb n).getD i []=(List.range n).map (E i)):=zh fun i hi=>by
  rw [EE]
  simp only [iY,List.getD_eq_getElem?_getD,List.getElem?_map,List.getElem?_eq_getElem hi,Option.map_some,Option.getD_some]
  refine List.map_congr_left fun c hc=>?_
  have:=hcg c (List.mem_range.1 hc)
  rw [List.getD_eq_getElem?_getD] at this
  rw [this]
 have Cm:Hid ((iY ma mb n).length=ma.length):=zh (by simp [iY])
 have HAR:=zh oD
 have HOC:=zh M7
 have HT:=zh ht
 have HEE:Hid (∀ i c,dK (ma.getD i []) (mc.getD c [])=E i c):=zh fun i c=>by rw [EE]
 have Xu:=zh hcl
 clear ha hb KW VF oD Lp hwa hwb M7 ht hcl hcg EE
 obtain ⟨na,hna⟩:∃ y,ma.length=y:=⟨_,rfl⟩
 obtain ⟨nb,hnb⟩:∃ y,mb.length=y:=⟨_,rfl⟩
 have Yx:=zh hna
 have HNB:=zh hnb
 rw [hna] at QU xP a1 a4 J6 Cm ⊢
 rw [hnb] at b1 b4 ca0 UF HTR HAR HOC ⊢
 clear hna hnb
 have b0n:0<nb:=by omega
 have a0n:0<na:=by omega
 obtain ⟨er,vZ⟩:∃ y:Int,Hid ((if gX (iY ma mb n) then 0 else 6)=y):=⟨_,zh rfl⟩
 obtain ⟨MM,EMM⟩:∃ y:RM,Hid (iY ma mb n=y):=⟨_,zh rfl⟩
 rw [vZ.out]
 rw [EMM.out] at vZ J6 Cm ⊢
 clear EMM
 go_enter Tryz.func25,Tryz.ntmps25
 go_wp2_with fail
 refine (QU.out _ (Below.refl _ _)).mono ?_
 rintro e v1 ⟨rfl,hc1⟩
 go_wp2_with fail
 refine (UF.out _ hc1).mono ?_
 rintro e v2 ⟨rfl,hc2⟩
 have hw2:Below w.heap.size w v2:=Bt hc1 hc2
 have c1:=(hw2.cell (p:=⟨ba,Zk,none⟩) lba).trans ca0
 have c2:=(hw2.cell (p:=⟨bb,ao8,none⟩) Sl).trans cb0
 go_wp2_with fail
 refine (xP.out _ hw2).mono ?_
 rintro e v3 ⟨vt,rfl,hc3,htab⟩
 obtain ⟨Zb,Zn,ca1,Za,Zm,ca2,rfl,hra,hma⟩:=htab
 have MF:=zh hra
 have GJ:=zh hma
 have hw3:Below w.heap.size w v3:=Bt hw2 hc3
 clear hra hma c1 c2
 go_wp2_with fail
 refine (HTR.out _ hw3).mono ?_
 rintro e v4 ⟨vtr,rfl,hc4,hmt⟩
 have HMT:=zh hmt
 clear hmt
 go_wp2_with fail
 refine (HRC.out _ _ HMT.out).mono ?_
 rintro e v5 ⟨vt,rfl,kZ,htab⟩
 obtain ⟨pb1,nb1,cb1,pb2,nb2,cb2,rfl,hrb,hmb⟩:=htab
 have ay5:=zh hrb
 have az0:=zh hmb
 have h45:=Bt hc4 kZ
 replace MF:=zh (MF.out.later h45)
 replace GJ:=zh (GJ.out.later h45)
 have QF:Below w.heap.size w v5:=Bt hw3 h45
 obtain ⟨P9,Bv,hmk⟩:=wQ na zo
 have MH:=zh Bv
 clear hrb hmb h45 Bv
 go_wp2_with fail
 obtain ⟨vb,QW⟩:∃ y,(v5.alloc (.cells #[.slice Zb Zn ca1,.slice Za Zm ca2] 93)).alloc (.cells #[.slice pb1 nb1 cb1,.slice pb2 nb2 cb2] 93)=y:=⟨_,rfl⟩
 have hM:v5.heap.size+1+1=vb.heap.size:=by rw [← QW];simp
 have h5b:Below v5.heap.size v5 vb:=by rw [← QW];exact aA
 have Xh:Hid (aB vb v5.heap.size #[.slice Zb Zn ca1,.slice Za Zm ca2] 93):=zh (by rw [← QW];exact aL)
 have HX7:Hid (aB vb (v5.heap.size+1) #[.slice pb1 nb1 cb1,.slice pb2 nb2 cb2] 93):=zh (by rw [← QW];exact aL)
 rw [QW,hM]
 have hwb:Below w.heap.size w vb:=Bt QF h5b
 obtain ⟨hn1,hr1⟩:=rJ (MF.out.later h5b)
 obtain ⟨hn2,hr2⟩:=rP (GJ.out.later h5b)
 obtain ⟨hn3,hr3⟩:=rJ (ay5.out.later h5b)
 obtain ⟨GX,hr4⟩:=rP (az0.out.later h5b)
 rw [List.length_map,Yx.out] at hn1 hn2
 rw [List.length_map,Xu.out] at hn3 GX
 replace hn1:=hn1.symm
 replace hn2:=hn2.symm
 replace hn3:=hn3.symm
 replace GX:=GX.symm
 subst hn1 hn2 hn3 GX
 have HR1:=zh hr1
 have HR2:=zh hr2
 have HR3:=zh hr3
 have HR4:=zh hr4
 have HM:=zh (gB.xY (f:=fun i=>((List.range n).map (E i)).map Fr.of) (aB.new vb P9 56) MH.out)
 have Yg:Below vb.heap.size vb (vb.alloc (.cells P9 56)):=aA
 obtain ⟨X6,EX6⟩:∃ y,v5.heap.size=y:=⟨_,rfl⟩
 rw [EX6] at Xh HX7 ⊢
 have l6:X6<vb.heap.size:=Xh.out.lt
 have l7:X6+1<vb.heap.size:=HX7.out.lt
 have csz:=hwb.size
 clear hr1 hr2 hr3 hr4 MF GJ ay5 az0 HMT QF hw3 hw2 hc1 hc2 hc3 hc4 kZ h5b hM EX6 QU UF xP HTR HRC hmk MH QW
 obtain ⟨G6,IY,hmk⟩:=wR n zo
 have MH:=zh IY
 clear IY
 go_loopw [39] (fun iv wr=>∃ r:Nat,iv= .int .i64 (r:Int)∧r≤na∧Hid (gB wr vb.heap.size na r (fun i=>((List.range n).map (E i)).map Fr.of))∧Hid (∀ i,i<r→∀ c,c<n→dA (E i c)=true)∧Below vb.heap.size vb wr) (fun iv _=>na - (intOf iv).toNat)
 case atStart=>exact ⟨0,rfl,by omega,HM,zh (fun i h=>by omega),Yg⟩
 case round =>
  clear HM Yg
  obtain ⟨r,rfl,hr,HM,HK,hb⟩:=hrel
  obtain ⟨wo,hwo⟩:∃ y,y=wr:=⟨_,rfl⟩
  subst hwo
  have lM:=HM.out.lt
  rcases Nat.lt_or_ge r na with hlt|hge
  ·have hlt2:(r:Int)<(na:Int):=by omega
   have cbo:=((Bt hwb hb).cell (p:=⟨bb,ao8,none⟩) Sl).trans cb0
   have Zu:bb<wo.heap.size:=Nat.lt_of_lt_of_le Sl (Bt hwb hb).size
   obtain ⟨⟨y1,GY⟩,fy⟩:=HM.out.cell hlt
   obtain ⟨qK,bM,hsz, -⟩:=HM.out
   have Qs:=zh bM
   have hrs:r<qK.size:=by omega
   clear bM hsz
   go_wp2_with fail
   clear GY fy cbo Zu
   have hGM:wo.heap.size≠vb.heap.size:=by omega
   have PW:vb.heap.size≠wo.heap.size:=by omega
   have Ye:aB ((wo.setCell ⟨vb.heap.size,r,none⟩ (.slice (some ⟨wo.heap.size,0,none⟩) n n)).alloc (.cells G6 36 (0,0))) wo.heap.size G6 36:=aB.pW zi
   have HF:=zh (show Fill _ wo.heap.size 36 n 0 (xR fun i=>Fr.of (E r i)) from ⟨G6,Ye,MH.out,fun i hi=>by omega⟩)
   have HB:=zh ((Qs.out.set r (.slice (some ⟨wo.heap.size,0,none⟩) n n)).alloc (.cells G6 36 (0,0)))
   have HN:=zh (((gY.refl wo vb.heap.size).set r (.slice (some ⟨wo.heap.size,0,none⟩) n n)).below (w':=(wo.setCell ⟨vb.heap.size,r,none⟩ (.slice (some ⟨wo.heap.size,0,none⟩) n n)).alloc (.cells G6 36 (0,0))) aA)
   clear Ye
   go_loopw [55] (fun iv wr=>∃ c:Nat,iv= .int .i64 (c:Int)∧c≤n∧Hid (Fill wr wo.heap.size 36 n c (xR fun i=>Fr.of (E r i)))∧Hid (∀ i,i<c→dA (E r i)=true)∧Hid (aB wr vb.heap.size (qK.setIfInBounds r (.slice (some ⟨wo.heap.size,0,none⟩) n n)) 56)∧Hid (gY wo wr vb.heap.size)) (fun iv _=>n - (intOf iv).toNat)
   case atStart=>exact ⟨0,rfl,by omega,HF,zh (fun i h=>by omega),HB,HN⟩
   case round =>
    clear HF HB HN
    obtain ⟨c,rfl,hcn,HF,HKc,HB,HN⟩:=hrel
    rcases Nat.lt_or_ge c n with hcl|hcl
    ·have PO:(c:Int)<(n:Int):=by omega
     have hbv:Below vb.heap.size vb wr:=HN.out.toBelow hb (Nat.le_refl _)
     obtain ⟨b1,o1,p1,m1,d1,rfl,e2,e3,e4⟩:=HR1.out r (by rw [List.length_map,Yx.out];exact hlt)
     obtain ⟨b2,o2,p2,m2,d2,rfl,f2,f3,f4⟩:=HR2.out r (by rw [List.length_map,Yx.out];exact hlt)
     obtain ⟨b3,o3,p3,m3,d3,rfl,g2,g3,g4⟩:=HR3.out c (by rw [List.length_map,Xu.out];exact hcl)
     obtain ⟨b4',o4,p4,m4,d4,rfl,k2,k3,k4⟩:=HR4.out c (by rw [List.length_map,Xu.out];exact hcl)
     simp only [List.getElem_map] at e4 f4 g4 k4
     have q1:=(hbv.cell (p:=⟨b1,o1+r,none⟩) e2).trans e3
     have q2:=(hbv.cell (p:=⟨b2,o2+r,none⟩) f2).trans f3
     have q3:=(hbv.cell (p:=⟨b3,o3+c,none⟩) g2).trans g3
     have q4:=(hbv.cell (p:=⟨b4',o4+c,none⟩) k2).trans k3
     have x6:=(Xh.out.later hbv).cell
     have x7:=(HX7.out.later hbv).cell
     have G1:=zh (e4.later hbv)
     have G2:=zh (f4.later hbv)
     have G3:=zh (g4.later hbv)
     have G4:=zh (k4.later hbv)
     have l1:=Nat.lt_of_lt_of_le e2 hbv.size
     have l2:=Nat.lt_of_lt_of_le f2 hbv.size
     have l3:=Nat.lt_of_lt_of_le g2 hbv.size
     have l4:=Nat.lt_of_lt_of_le k2 hbv.size
     have z6:=Nat.lt_of_lt_of_le l6 hbv.size
     have z7:=Nat.lt_of_lt_of_le l7 hbv.size
     clear e2 e3 e4 f2 f3 f4 g2 g3 g4 k2 k3 k4
     have HWB:=zh (show Below vb.heap.size vb wr from hbv)
     have hrm:r<ma.length:=by rw [Yx.out];exact hlt
     have hcm:c<mc.length:=by rw [Xu.out];exact hcl
     have hra:=HAR.out ma[r] (List.getElem_mem _)
     have hcc:=HOC.out.2.2.2.2 mc[c] (List.getElem_mem _)
     have hee:dK ma[r] mc[c]=E r c:=by
      have:=HEE.out r c
      rw [getD_lt hrm,getD_lt hcm] at this
      exact this
     have xP:=zh hra
     have HCC:=zh hcc
     have YA:=zh hee
     clear hra hcc hee HR1 HR2 HR3 HR4 Xh HX7
     generalize ma[r]=ra at *
     generalize mc[c]=cc at *
     clear hrm hcm
     have htl:(iy ra).length=ra.length:=List.length_map _
     have htc:(iy cc).length=cc.length:=List.length_map _
     have hrl:=xP.out.1
     have Td:=HCC.out.1
     have Qr:=zh (fun w' (hx:Below wr.heap.size wr w')=>TL _ _ (iy ra) (iy cc) w' (G1.out.later hx) (G3.out.later hx) (by rw [htl,htc,hrl,Td]) zo zo
      (fun i=>Nat.le_trans (nQ xP.out.2 zo i) zo) (fun i=>Nat.le_trans (nQ HCC.out.2 zo i) zo))
     have hcr:=rF ra xP.out.2
     have hcq:=rF cc HCC.out.2
     have hpr:=(jD ra).1
     have hpq:=(jD cc).1
     have hprod:=Nat.mul_pos hpr hpq
     have hsp:=qV (B:=1000000000) zo (cK ra) (cK cc)
     have Bu:=TN (r:=ra) (s:=cc) (by rw [Td,hrl])
     have KR:=zh (show sz 1000000000 (cK ra)≤1099511627776 by omega)
     have KQ:=zh (show sz 1000000000 (cK cc)≤1099511627776 by omega)
     have hz1:sz 1000000000 (yE (iy ra) (iy cc)).natAbs≤549755813888:=by
      unfold yE
      have:=oV (fun i=>(iy ra).getD i 0*(iy cc).getD i 0) 2000 (fun i=>by
       have h1:=jr ((iy ra).getD i 0) ((iy cc).getD i 0)
       have h2:=nQ xP.out.2 zo i
       have h3:=nQ HCC.out.2 zo i
       unfold iy at *
       omega) (iy ra).length
      omega
     have hzd:yE (iy ra) (iy cc)=wK (fun i=>(ra.map (jN (cK ra))).getD i 0*(cc.map (jN (cK cc))).getD i 0) ra.length:=by
      unfold yE
      rw [htl,FE]
      rfl
     rw [← hzd] at Bu
     obtain ⟨z,EZ⟩:∃ x:Int,Hid (yE (iy ra) (iy cc)=x):=⟨_,zh rfl⟩
     obtain ⟨D,ED⟩:∃ x:Nat,Hid (cK ra*cK cc=x):=⟨_,zh rfl⟩
     rw [EZ.out] at Qr hz1 Bu
     rw [ED.out] at hprod hsp Bu
     have KZ:=zh hz1
     have KD:Hid (sz 1000000000 ((D:Nat):Int).natAbs≤549755813888):=zh (by rw [Int.natAbs_natCast];omega)
     have ND:Hid (((D:Nat):Int)≠0):=zh zo
     have SD:Hid (je D false=((D:Nat):Int)):=zh rfl
     have HW:Hid ((z:Rat) / ((((D:Nat):Int)):Rat)=dK ra cc):=zh (by rw [Rat.intCast_natCast];exact Bu)
     clear htl htc hrl Td hcr hcq hpr hpq hprod hsp Bu hz1 hzd
     rw [YA.out] at HW
     obtain ⟨q,EQ⟩:∃ x:Rat,Hid (E r c=x):=⟨_,zh rfl⟩
     rw [EQ.out] at HW
     have Xo:=zh (HT.out.later (Bt hwb hbv))
     go_wp2_with fail
     refine aC [(.pure,0),(.read,1),(.pure,2),(.pure,3),(.read,4),(.pure,5),(.read,6),(.pure,7),(.pure,8),(.read,9),(.ext,10),(.fin,11)] zk zk zR zP ?_
     repeat (first|(refine ah rfl rfl fun J h=>?_;go_simp;refine h _ ?_;clear h J)|(refine au rfl rfl rfl rfl fun J h=>?_;go_simp;refine h _ ?_;clear h J;try go_simp))
     refine aD rfl rfl (fun w21 LA J hJ=>?_);go_simp
     replace G2:=zh (aM.carry G2.out aH LA)
     replace G4:=zh (aM.carry G4.out aH LA)
     refine ((jm _ _ (cK ra) (cK cc) _ aH aH KR.out KQ.out).mono (by rw [ED.out];exact fun _ _ h=>h)).mono ?_
     rintro e v21 ⟨v,rfl,hc21,hv⟩
     obtain ⟨ao6,lHm,ax7,rfl⟩:=hv.slice;have Hm:=zh hv;clear hv
     replace G2:=zh (aM.later G2.out hc21)
     replace G4:=zh (aM.later G4.out hc21)
     refine hJ _ _ hc21 ?_
     clear hJ J
     refine aJ [_] rfl (fun XE IZ=>?_)
     have vO:Below wr.heap.size wr XE:=aA
     replace Hm:=zh (Hm.out.later IZ)
     have q1':=(vO.cell (p:=⟨b1,o1+r,none⟩) l1).trans q1
     have q3':=(vO.cell (p:=⟨b3,o3+c,none⟩) l3).trans q3
     have x6':=(vO.cell (p:=⟨X6,0,none⟩) z6).trans (x6 0)
     have x7':=(vO.cell (p:=⟨X6+1,0,none⟩) z7).trans (x7 0)
     clear q1 q2 q3 q4 x6 x7 IZ LA hc21 G2 G4
     have lG:=HF.out.lt
     have lMr:=HB.out.lt
     have aV9:=vO.size
     go_wp2_with fail
     refine aC [(.pure,0),(.read,1),(.pure,2),(.pure,3),(.read,4),(.pure,5),(.read,6),(.pure,7),(.pure,8),(.read,9),(.pure,11),(.ext,10),(.ext,12),(.ext,13),(.pure,14),(.pure,15),(.pure,16),(.alloc #[.string ⟨#[]⟩,.string ⟨#[]⟩] 36,17),(.fin,18),(.fin,19)] zk zk zR zP ?_
     repeat (first|(refine ah rfl rfl fun J h=>?_;go_simp;refine h _ ?_;clear h J)|(refine au rfl rfl rfl rfl fun J h=>?_;go_simp;refine h _ ?_;clear h J;try go_simp))
     refine aD rfl rfl (fun w31 Tn J hJ=>?_);go_simp
     replace Hm:=zh (aM.carry Hm.out aH Tn)
     refine (Qr.out _ aA).mono ?_
     rintro e v31 ⟨v,rfl,hc31,hv⟩
     obtain ⟨ao5,lHz,ax6,rfl,Hz⟩:=hv;replace Hz:=zh Hz
     replace Hm:=zh (aM.later Hm.out hc31)
     refine hJ _ _ hc31 ?_
     clear hJ J
     refine aD rfl rfl (fun w32 ad1 J hJ=>?_);go_simp
     replace Hz:=zh (aM.later Hz.out ad1)
     refine ((eH _ D false _ aH).mono (by rw [SD.out];exact fun _ _ h=>h)).mono ?_
     rintro e v32 ⟨v,rfl,hc32,hv⟩
     obtain ⟨Pg,lHs,Qd,rfl,Hs⟩:=hv;replace Hs:=zh Hs
     replace Hz:=zh (aM.later Hz.out hc32)
     refine hJ _ _ hc32 ?_
     clear hJ J
     have hq2:dA q=true∨dA q=false:=by cases dA q<;>simp
     rcases hq2 with hq2|hq2
     ·have Ot:Hid (Fr.res (dB.wr q)= .tuple #[.agg #[.string (Fr.of q).n,.string (Fr.of q).d],.int .i64 0]):=zh (by unfold dB.wr;rw [if_pos hq2];rfl)
      have CB:=zh hq2
      clear hq2
      obtain ⟨s1,Oz⟩:∃ x:ByteArray,Hid ((Fr.of q).n=x):=⟨_,zh rfl⟩
      obtain ⟨s2,Oy⟩:∃ x:ByteArray,Hid ((Fr.of q).d=x):=⟨_,zh rfl⟩
      rw [Oz.out,Oy.out] at Ot
      refine aD rfl rfl (fun w33 Lx J hJ=>?_);go_simp
      refine ((jO _ _ z ((D:Nat):Int) _ (aZ.aW aH) (aZ.aW aH) ND.out KZ.out KD.out (Xo.out.later aA)).mono (by rw [HW.out,Ot.out];exact fun _ _ h=>h)).mono ?_
      rintro e v33 ⟨rfl,Lm⟩
      refine hJ _ _ Lm ?_
      clear hJ J
      repeat (first|(refine ah rfl rfl fun J h=>?_;go_simp;refine h _ ?_;clear h J)|(refine au rfl rfl rfl rfl fun J h=>?_;go_simp;refine h _ ?_;clear h J;try go_simp))
      refine aQ rfl (fun b17 w17 ZE DZ ZR ax0 mO=>?_);go_simp;replace mO:aB _ _ _ _:=mO;have aw5:w.heap.size≤b17:=(by first|omega|exact Nat.le_trans (Below.size (B:=w.heap.size) aA) DZ)
      refine aJ [_,_] rfl (fun UU mU=>?_)
      replace mO:=aB.later (mO) mU;replace Ud:=mO.cell;replace TD:=mO.free;replace Sj:=mO.lt
      have yB:Below wr.heap.size wr UU:=aA
      have ad9:XE.heap.size≤b17:=DZ
      replace HF:=zh (HF.out.yA yB)
      replace HB:=zh (HB.out.later yB)
      replace HN:=zh (HN.out.below yB)
      have ne1:wo.heap.size≠b17:=by omega
      have ne2:vb.heap.size≠b17:=by omega
      have QI:wo.heap.size≤b17:=by omega
      clear q1' q3' x6' x7' vO yB DZ Qr Xo
      go_wp2_with fail
      obtain ⟨Vi,E19⟩:∃ y,(UU.setCell ⟨b17,0,none⟩ (.string s1)).setCell ⟨b17,1,none⟩ (.string s2)=y:=⟨_,rfl⟩
      replace HF:=zh ((HF.out.other (a:=⟨b17,0,none⟩) (.string s1) ne1).other (a:=⟨b17,1,none⟩) (.string s2) ne1)
      replace HB:=zh ((HB.out.setOther (a:=⟨b17,0,none⟩) (.string s1) ne2).setOther (a:=⟨b17,1,none⟩) (.string s2) ne2)
      replace HN:=zh ((HN.out.gT QI 0 (.string s1)).gT QI 1 (.string s2))
      have ru:=(mO.set 0 (.string s1)).set 1 (.string s2)
      simp only [List.setIfInBounds_toArray,List.set_cons_zero,List.set_cons_succ] at ru
      rw [E19] at HF HB HN ru ⊢
      clear E19 mO Ud TD Sj
      have c17:=ru.cell
      have l17:=ru.lt
      have cM:=HB.out.cell r
      rw [Array.getElem?_setIfInBounds,if_pos rfl,if_pos hrs] at cM
      have lM9:=HB.out.lt
      refine aC [(.pure,0),(.pure,1),(.pure,2),(.read,3),(.pure,4),(.read,5),(.pure,6),(.fin,7)] zk zk zR zP ?_
      repeat (first|(refine ah rfl rfl fun J h=>?_;go_simp;refine h _ ?_;clear h J)|(refine au rfl rfl rfl rfl fun J h=>?_;go_simp;refine h _ ?_;clear h J;try go_simp))
      refine aJ [_] rfl (fun w20 sS=>?_)
      have F7:Below Vi.heap.size Vi w20:=aA
      replace HF:=zh (HF.out.yA F7)
      replace HB:=zh (HB.out.later F7)
      replace HN:=zh (HN.out.below F7)
      obtain ⟨⟨y1,GY⟩,⟨y2,Yl⟩,fy⟩:=HF.out.cells hcl
      have aD2:=HF.out.lt
      clear sS F7 c17 l17 cM lM9 ru
      go_wp2_with fail
      go_roundw
      case rel =>
       refine ⟨c+1,by go_num,by omega,zh (HF.out.step hcl (fun _ _ _ h=>h) ⟨?_,?_⟩),zh fun i hi=>?_,zh ((HB.out.setOther _ PW).setOther _ PW),zh ((HN.out.gT (Nat.le_refl _) _ _).gT (Nat.le_refl _) _ _)⟩
       ·show Value.string s1= .string (Fr.of (E r c)).n
        rw [EQ.out,Oz.out]
       ·show Value.string s2= .string (Fr.of (E r c)).d
        rw [EQ.out,Oy.out]
       ·rcases Nat.lt_or_ge i c with h|h
        ·exact HKc.out i h
        ·obtain rfl:i=c:=by omega
         rw [EQ.out]
         exact CB.out
      case measure=>exact zM
     ·have Ot:Hid (Fr.res (dB.wr q)= .tuple #[.agg #[.string ⟨#[]⟩,.string ⟨#[]⟩],.int .i64 6]):=zh (rY hq2)
      have hbad:gX MM=false:=by
       unfold gX
       rw [List.all_eq_false]
       refine ⟨MM.getD r [],?_,?_⟩
       ·rw [getD_lt (show r<MM.length by rw [Cm.out];exact hlt)]
        exact List.getElem_mem _
       ·rw [J6.out r hlt]
        simp only [List.all_map,Bool.not_eq_true]
        rw [List.all_eq_false]
        exact ⟨c,List.mem_range.2 hcl,by simp only [Function.comp];rw [EQ.out,hq2];simp⟩
      have her:er=6:=by rw [← vZ.out,if_neg (by rw [hbad];simp)]
      have GL:=zh her
      clear hq2 hbad her
      refine aD rfl rfl (fun w33 Lx J hJ=>?_);go_simp
      refine ((jO _ _ z ((D:Nat):Int) _ (aZ.aW aH) (aZ.aW aH) ND.out KZ.out KD.out (Xo.out.later aA)).mono (by rw [HW.out,Ot.out];exact fun _ _ h=>h)).mono ?_
      rintro e v33 ⟨rfl,Lm⟩
      refine hJ _ _ Lm ?_
      clear hJ J
      repeat (first|(refine ah rfl rfl fun J h=>?_;go_simp;refine h _ ?_;clear h J)|(refine au rfl rfl rfl rfl fun J h=>?_;go_simp;refine h _ ?_;clear h J;try go_simp))
      refine aQ rfl (fun b17 w17 ZE DZ ZR ax0 mO=>?_);go_simp;replace mO:aB _ _ _ _:=mO;have aw5:w.heap.size≤b17:=(by first|omega|exact Nat.le_trans (Below.size (B:=w.heap.size) aA) DZ)
      refine aJ [_,_] rfl (fun UU mU=>?_)
      replace mO:=aB.later (mO) mU;replace Ud:=mO.cell;replace TD:=mO.free;replace Sj:=mO.lt
      have yB:Below w.heap.size w UU:=Bt (Bt hwb hbv) aA
      have ad9:XE.heap.size≤b17:=DZ
      have hwr:=(Bt hwb hbv).size
      clear q1' q3' x6' x7' vO
      go_wp2_with fail
      go_ret2
      rw [GL.out]
      exact aS.no ((yB.setCell (by simp;omega) _).setCell (by simp;omega) _) zd
    ·have Tc:n=c:=by omega
     subst Tc
     go_wp2_with fail
     go_roundw
     case rel =>
      have hbv:Below vb.heap.size vb wr:=HN.out.toBelow hb (Nat.le_refl _)
      refine ⟨r+1,by go_num,by omega,zh (HM.out.step (v:=.slice (some ⟨wo.heap.size,0,none⟩) n n) hlt HN.out (fun arr hA=>?_) ?_),zh fun i hi c hc=>?_,hbv⟩
      ·have hAM:arr=qK:=dB.aB.uniq hA Qs.out
       rw [hAM]
       exact HB.out
      ·refine Fill.zL (HF.out.BQ fun i hi=>?_) zi zo
       simp [hi]
      ·rcases Nat.lt_or_ge i r with h|h
       ·exact HK.out i h c hc
       ·obtain rfl:i=r:=by omega
        exact HKc.out c hc
     case measure=>exact zM
  ·have hrn:na=r:=by omega
   subst hrn
   have hall:gX MM=true:=by
    unfold gX
    rw [List.all_eq_true]
    intro x hx
    obtain ⟨i,hi,rfl⟩:=List.getElem_of_mem hx
    rw [Cm.out] at hi
    have e:=J6.out i hi
    rw [getD_lt (show i<MM.length by rw [Cm.out];exact hi)] at e
    rw [e,List.all_eq_true]
    intro q hq
    obtain ⟨c,hc,rfl⟩:=List.mem_map.1 hq
    exact HK.out i hi c (List.mem_range.1 hc)
   have her:er=0:=by rw [← vZ.out,if_pos hall]
   have hmv:bO wo (.slice (some ⟨vb.heap.size,0,none⟩) na na) MM.fr:=by
    have e1:MM.fr.length=na:=by unfold RM.fr;rw [List.length_map];exact Cm.out
    have:bO wo (.slice (some ⟨vb.heap.size,0,none⟩) MM.fr.length MM.fr.length) MM.fr:=by
     refine gB.zC ?_ zo
     rw [e1]
     obtain ⟨arr,k1,k2,k3⟩:=HM.out
     refine ⟨arr,k1,k2,fun i hi=>?_⟩
     have e2:MM.fr.getD i []=((List.range n).map (E i)).map Fr.of:=by
      rw [← J6.out i hi]
      simp [RM.fr,show i<List.length MM by rw [Cm.out];exact hi]
     show ∃ v,arr[i]? =some v∧jI wo 36 v (MM.fr.getD i [])
     rw [e2]
     exact k3 i hi
    rw [e1] at this
    exact this
   have vY:=zh hmv
   have Xt:=zh her
   clear hall hmv her
   go_wp2_with fail
   go_ret2
   rw [Xt.out]
   exact aS.yes (Bt hwb hb) vY.out
end Go.Proofs.matrix
