/- Lemmas for the proof. No condition. -/
import Derived.Test.YtbngfhgoeoncmaaGreatDoorTB25
import Derived.Test.YtbngfhgoeoncmaaGreatDoorTB28
import Derived.RangeFuncNested
import Derived.RangeFuncBound
import Derived.RangeFuncCalls
import Derived.RangeFuncFrom
set_option linter.unusedVariables false
set_option linter.unusedSimpArgs false
set_option maxRecDepth 100000
set_option maxHeartbeats 16000000
open Bool renaming and_eq_true → aD
open Go.Ending renaming returned → ah
open Go.IntKind renaming i64 → I
open Go.Value renaming agg → aB, bool → aC, int → Z, pointer → au, slice → aj, string → O
open List renaming all_eq_true → bZ, cons_append → bB, getElem_mem → bN, length_cons → aV
open Nat renaming le_refl → aG, le_trans → ay, lt_or_ge → aH
namespace Go.Proofs.matrix
open Go Go.RowKit Go.SW Go.Num Go.Mem Go.Proofs Go.Dec Go.d9
theorem u7 (v:Value) (l:List Fr) (T:TypeId) (w:World) (h:qM w T v l) :
  Calls Tryz.prog 130 #[v] w (fun e w'=>e= ah (Z I (jW l))∧Below w.heap.size w w'):=by
 obtain ⟨a,cap,rfl,hc1,hc2,hread⟩:=h.read;have H:=zh hread;clear h hread;go_enter Tryz.func130,Tryz.ntmps130
 go_wp2_with fail
 go_loopw [7] (fun iv wr=>∃ k:Nat,iv= Z I (k:Int)∧k≤l.length∧Hid (∀ j (h:j<l.length),j<k→(rd l[j]).isSome=true)∧Below w.heap.size w wr) (fun iv _=>l.length - (intOf iv).toNat)
 case atStart=>exact ⟨0,rfl,by omega,zh (fun j _ h=>by omega),Below.refl _ _⟩
 case round =>
  obtain ⟨k,rfl,hk,HK,hb⟩:=hrel
  rcases aH k l.length with hlt|hge
  ·obtain ⟨b,off,rfl,hbl,hx1,hx2⟩:=H.out k hlt;have hc1:=(hb.cell (p:=⟨b,off+k*2,none⟩) hbl).trans hx1;have hc2:=(hb.cell (p:=⟨b,off+k*2+1,none⟩) hbl).trans hx2;clear hx1 hx2;have hck:=dw.gQ l[k];generalize hlk:l[k]=lk at *;obtain ⟨s,t⟩:=lk;cases hv:(rd ⟨s,t⟩).isSome with
   | true =>
    rw [Gg hv] at hck;have H8:Hid (∀ w,Calls Tryz.prog 69 #[aB #[O s,O t]] w (fun e w'=>e= ah (Z I 0)∧Below w.heap.size w w')):=zh hck;have YZ:=zh hlk;have HV:=zh hv;clear hck hlk hv;go_wp2_with fail
    refine (H8.out _).mono ?_;rintro e v1 ⟨rfl,hc1⟩;go_wp2_with fail
    go_roundw
    case rel =>
     refine ⟨k+1,by go_num,by omega,zh fun j hj hjk=>?_,Bt hb aO⟩
     rcases aH j k with h|h
     ·exact HK.out j hj h
     ·obtain rfl:j=k:=by omega
      rw [YZ.out];exact HV.out
    case measure=>exact zM
   | false =>
    rw [Qt hv] at hck;have H8:Hid (∀ w,Calls Tryz.prog 69 #[aB #[O s,O t]] w (fun e w'=>e= ah (Z I 20)∧Below w.heap.size w w')):=zh hck
    have hno:jW l=20:=by
     unfold jW;rw [if_neg];intro h;have:=List.all_eq_true.1 h l[k] (bN _);rw [hlk,hv] at this;cases this
    have HNO:=zh hno;clear hck hlk hv hno;go_wp2_with fail
    refine (H8.out _).mono ?_;rintro e v1 ⟨rfl,hc1⟩;go_wp2_with fail
    go_ret
    exact ⟨by rw [HNO.out];rfl,Bt hb aO⟩
  ·have hyes:jW l=0:=by
    unfold jW;rw [if_pos];rw [bZ];intro x hx;obtain ⟨j,hj,rfl⟩:=List.getElem_of_mem hx;exact HK.out j hj zo
   have Yd:=zh hyes;clear hyes;obtain rfl:k=l.length:=by omega
   go_wp2_with fail
   go_ret
   exact ⟨by rw [Yd.out];rfl,hb⟩
end Go.Proofs.matrix
namespace Go.Proofs.matrix
open Go Go.RowKit Go.Shelf Go.SW Go.Num Go.Mem Go.Proofs Go.Dec Go.d9
attribute [local go_sem] Oper.semAt_some
theorem fC {W W':World} (h:Below W.heap.size W W'):KeepsOthers W W' :=
 ⟨h.size,fun k o hk _=>(h.block k (Array.getElem?_eq_some_iff.1 hk).1).trans hk⟩
theorem gD {W W':World} {row:Option Nat} {b:Nat} {cs:Array Value} {T:TypeId} (h:aA W b cs T) (hg:W.grownBy W' row) (hr:∀ r,row=some r→∃ o:Obj,W.heap[r]? =some o∧o.isCells=false):aA W' b cs T:=by
 unfold aA at *;rw [hg.block b (Array.getElem?_eq_some_iff.1 h).1 ?_]
 ·exact h
 ·intro e;obtain ⟨o,ho,hc⟩:=hr b e.symm;rw [h] at ho;cases ho
  cases hc
theorem Jj (b off cap n:Nat) (m:List (List Fr)) (rs:List Value) (a0:Option Addr) (n0 cap0:Nat) (w:World) (hn:rs.length=n) (h1:1≤n) (h4:n≤4) (hm:rs.length=m.length) (hR:Row w 130 (aj (some ⟨b,off,none⟩) n cap) rs)
  (hc:w.cell? ⟨b,off,none⟩=some (.slice a0 n0 cap0)) (k1:1≤n0) (k4:n0≤4)
  (hF:∀ i (h:i<rs.length) (h':i<m.length),qM w 38 rs[i] m[i]) :
  Calls Tryz.prog 129 #[aj (some ⟨b,off,none⟩) n cap] w fun e w'=>e= ah (Z I (if m.all (fun r=>r.length == n0&&jW r == 0) then 0 else 50))∧Below w.heap.size w w':=by
 have lb:b<w.heap.size:=by
  rcases hR.cases with ⟨h,_⟩|⟨b',off',cap',arr,h,_,_,h3,_⟩
  ·cases h
  ·simp only [Value.slice.injEq,Option.some.injEq,Addr.mk.injEq,and_true] at h;rw [h.1.1];exact h3.lt
 have lb1:b<w.heap.size+1:=by omega
 have q1:decide ((n:Int)<1)=false:=by simp;omega
 have q2:decide ((4:Int)<(n:Int))=false:=by simp;omega
 have q3:decide ((n0:Int)<1)=false:=by simp;omega
 have q4:decide ((4:Int)<(n0:Int))=false:=by simp;omega
 have h0n:0<n:=by omega
 have HR:=zh hR;have HF:=zh hF;have HM:=zh hm;have HN:=zh hn;clear hR hF hm hn;obtain ⟨z,Ez⟩:∃ y:Int,Hid ((if m.all (fun r=>r.length == n0&&jW r == 0) then 0 else 50)=y):=⟨_,zh rfl⟩;rw [Ez.out];refine (callsIn_wide (n:=3)).1 ?_;refine callsIn_of_wp_marks Tryz.func129 rfl trivial ?_ rfl;simp only [Tryz.ntmps129,List.size_toArray,aV,List.length_nil,Nat.reduceAdd,Nat.reduceSub,Array.replicate_succ,Array.replicate_zero,List.push_toArray,List.append_toArray,List.nil_append,bB]
 gi_wp2_with (refine ⟨trivial,?_⟩;gi_at_call 197;refine (EB Fence.wide 2 trivial rfl _ _ _ _).mono ?_;rintro e w' ⟨rfl,rfl⟩)
 have hB0:Below w.heap.size w (((w.alloc (.cells #[aj (some ⟨b,off,none⟩) n cap] 126)).alloc (.cells #[Z I 0] 28)).alloc (.cells #[aj (some ⟨b,off,none⟩) n cap] 126)):=aO;have hbx0:aA (((w.alloc (.cells #[aj (some ⟨b,off,none⟩) n cap] 126)).alloc (.cells #[Z I 0] 28)).alloc (.cells #[aj (some ⟨b,off,none⟩) n cap] 126)) w.heap.size #[aj (some ⟨b,off,none⟩) n cap] 126:=aY;have Ja:aA (((w.alloc (.cells #[aj (some ⟨b,off,none⟩) n cap] 126)).alloc (.cells #[Z I 0] 28)).alloc (.cells #[aj (some ⟨b,off,none⟩) n cap] 126)) (w.heap.size+1) #[Z I 0] 28:=aY;have o8:aA (((w.alloc (.cells #[aj (some ⟨b,off,none⟩) n cap] 126)).alloc (.cells #[Z I 0] 28)).alloc (.cells #[aj (some ⟨b,off,none⟩) n cap] 126)) (w.heap.size+1+1) #[aj (some ⟨b,off,none⟩) n cap] 126:=aY
 refine wpIn_rangeFunc_ownF (α:=Fin rs.length) rfl zo (gf:=264) (lb:=#[au (some ⟨w.heap.size+1+1,0,none⟩)]) rfl trivial (enters_of Tryz.func264 zk rfl)
  (wD Fence.wide 2 trivial rfl zo (w.heap.size+1+1) w.heap.size _ rs w _ o8.lt hB0.size ((o8.cell 0).trans rfl) HR.out (aG _) hB0) belowK_t (belowK_b hB0.size) (Below.refl _ _) (fun _=>rfl)
  (fun pre W=>(Hid (∀ x∈pre,((m.getD x.1 []).length == n0&&jW (m.getD x.1 []) == 0)=true)∧aA W w.heap.size #[aj (some ⟨b,off,none⟩) n cap] 126∧aA W (w.heap.size+1) #[Z I 0] 28)∧Below w.heap.size w W)
  (fun c pre W=>(c= .ret∧Hid (∃ x:Fin rs.length,((m.getD x.1 []).length == n0&&jW (m.getD x.1 []) == 0)=false)∧aA W (w.heap.size+1) #[Z I 50] 28)∧Below w.heap.size w W)
  (OwnFrom.and (Own.from (fun s A B row hs hg hr=>⟨hs.1,gD hs.2.1 hg hr,gD hs.2.2 hg hr⟩) _) (ownFrom_below (aG _) hB0.size))
  (fun c=>OwnFrom.and (Own.from (fun s A B row hs hg hr=>⟨hs.1,hs.2.1,gD hs.2.2 hg hr⟩) _) (ownFrom_below (aG _) hB0.size))
  ⟨⟨zh zi,hbx0,Ja⟩,hB0⟩ ?a1 ?assign ?body ?done ?stop
 case assign =>
  intro l x W K hK;unfold enc
  gi_wp2
  exact hK
 case body =>
  rintro l pre x W ⟨⟨hp,hb0,hb1⟩,hB⟩ _;have hxm:x.1<m.length:=HM.out ▸ x.2;have hgd:m.getD x.1 []=m[x.1]:=by simp [hxm]
  have hfr:=HF.out x.1 x.2 hxm;obtain ⟨a',cap',hre,k5,k6, -⟩:=hfr.read;have NA:=zh (hfr.later hB);have cm:=(hB.cell (p:=⟨b,off,none⟩) lb).trans hc;have c0:=hb0.cell;have f1:=hb1.free;have c1:=hb1.cell;have e5:∀ y,m.getD x.1 []=y→((y.length == n0&&jW y == 0)=((m.getD x.1 []).length == n0&&jW (m.getD x.1 []) == 0)):=fun y h=>by rw [h]
  have HE5:=zh (e5 _ hgd);clear hfr e5 hgd hc;generalize rs[x.1]=rx at *;subst hre;generalize hmx:m[x.1]=mx at *;have HMX:=zh hmx;clear hmx
  by_cases hl:mx.length=n0
  ·have b1:((mx.length:Int) != (n0:Int))=false:=by simp [hl]
   have hch:jW mx=0∨jW mx=20:=by unfold jW;split<;>simp
   have HL:=zh hl;have H8:=zh (fun W h=>u7 (aj a' mx.length cap') mx 38 W h);clear hl
   rcases hch with hch|hch
   ·have JC:=zh hch;clear hch;rw [JC.out] at H8
    gi_wp2_with (refine ⟨trivial,?_⟩;gi_at_call 130;refine (CallsIn.inRound l (callsIn_wide.2 (H8.out _ NA.out))).mono ?_;rintro e w1 ⟨rfl,hc1⟩)
    refine ⟨fC hc1,hc1.mono hB.size,⟨⟨zh fun y hy=>?_,hb0.later hc1,hb1.later hc1⟩,hB.trans (hc1.mono hB.size)⟩⟩
    rcases List.mem_append.1 hy with h|h
    ·exact hp.out y h
    ·rw [List.mem_singleton] at h;subst h;rw [← HE5.out,JC.out,HL.out];simp
   ·have JC:=zh hch;clear hch;rw [JC.out] at H8
    gi_wp2_with (refine ⟨trivial,?_⟩;gi_at_call 130;refine (CallsIn.inRound l (callsIn_wide.2 (H8.out _ NA.out))).mono ?_;rintro e w1 ⟨rfl,hc1⟩;have hb2:=hb1.later hc1;have c2:=hb2.cell;have f2:=hb2.free)
    refine ⟨(fC hc1).trans (KeepsOthers.setCell _ _ _),⟨⟨rfl,zh ⟨x,?_⟩,hb2.set 0 _⟩,(hB.trans (hc1.mono hB.size)).setCell zi _⟩⟩;rw [← HE5.out,JC.out,HL.out];simp
  ·have b1:((mx.length:Int) != (n0:Int))=true:=by simp;omega
   have HL:=zh hl;clear hl
   gi_wp2
   refine ⟨trivial,?_⟩
   gi_wp2
   refine ⟨KeepsOthers.setCell _ _ _,⟨⟨rfl,zh ⟨x,?_⟩,hb1.set 0 _⟩,hB.setCell zi _⟩⟩;rw [← HE5.out];have:=HL.out;simp [this]
 case done =>
  rintro D ys W hD rfl ⟨⟨hp,hb0,hb1⟩,hB⟩ hK;have c1:=hb1.cell;have f1:=hb1.free
  have hall:m.all (fun r=>r.length == n0&&jW r == 0)=true:=by
   rw [bZ];intro r hr;obtain ⟨i,hi,rfl⟩:=List.getElem_of_mem hr;have h2:i<rs.length:=by rw [HM.out];exact hi
   have:=hp.out ⟨i,h2⟩ (by unfold upto;rw [List.mem_ofFn];exact ⟨⟨i,h2⟩,rfl⟩)
   simpa [hi] using this
  have hz:z=0:=by rw [← Ez.out,if_pos hall]
  have HZ:=zh hz;clear hall hz
  gi_wp2
  have hb2:=hb1.set 0 (Z I 0);have hK':=(KeepsOthers.setCell W ⟨w.heap.size+1,0,none⟩ (Z I 0)).same D _ hK rfl;refine ⟨by simp,.inl ⟨_,_,rfl,run_takeDeferred hK',?_⟩⟩;have hb3:=gD hb2 (grownBy_putObj' _ D (.deferred none)) (fun r e=>by cases e;exact ⟨_,hK',rfl⟩);have kK:=hb3.cell 0;refine ⟨Z I 0,?_,by rw [HZ.out],(hB.setCell (p:=⟨w.heap.size+1,0,none⟩) zi _).trans (belowK_b (w:=w) (aG _) _ D _ _ (by simp at hD;omega) hK' rfl rfl)⟩;simp [results,Tryz.f129,go_sem,kK]
 case stop =>
  rintro D c pre W hD hpre ⟨⟨rfl,hin,hb1⟩,hB⟩ hK
  have hz:z=50:=by
   rw [← Ez.out,if_neg];intro h;obtain ⟨x,hx⟩:=hin.out;have hxm:x.1<m.length:=HM.out ▸ x.2;have h2:=List.all_eq_true.1 h m[x.1] (bN _);have hgd:m.getD x.1 []=m[x.1]:=by simp [hxm]
   rw [hgd,h2] at hx;cases hx
  have HZ:=zh hz;clear hz
  gi_wp2
  refine ⟨by simp,.inl ⟨_,_,rfl,run_takeDeferred hK,?_⟩⟩;have hb3:=gD hb1 (grownBy_putObj' _ D (.deferred none)) (fun r e=>by cases e;exact ⟨_,hK,rfl⟩);have kK:=hb3.cell 0;refine ⟨Z I 50,?_,by rw [HZ.out],hB.trans (belowK_b (w:=w) (aG _) W D _ _ (by simp at hD;omega) hK rfl rfl)⟩;simp [results,Tryz.f129,go_sem,kK]
end Go.Proofs.matrix
namespace Go.Proofs.matrix
open Go Go.RowKit Go.SW Go.Num Go.Mem Go.Proofs Go.Dec Go.d9
theorem Gj (a:Option Addr) (n cap:Nat) (w:World) (h:n<1∨4<n) :
  Calls Tryz.prog 129 #[aj a n cap] w fun e w'=>e= ah (Z I 50)∧Below w.heap.size w w':=by
 rcases h with h|h
 ·have q1:decide ((n:Int)<1)=true:=by simp;omega
  clear h;go_enter Tryz.func129,Tryz.ntmps129
  go_wp2_with fail
  exact bodyPost_ret (v:=Z I 50) (by simp [results,Tryz.results129,go_sem]) rfl ⟨rfl,aO⟩
 ·have q1:decide ((n:Int)<1)=false:=by simp;omega
  have q2:decide ((4:Int)<(n:Int))=true:=by simp;omega
  clear h;go_enter Tryz.func129,Tryz.ntmps129
  go_wp2_with fail
  exact bodyPost_ret (v:=Z I 50) (by simp [results,Tryz.results129,go_sem]) rfl ⟨rfl,aO⟩
theorem Gi (b off cap n:Nat) (a0:Option Addr) (n0 cap0:Nat) (w:World) (h1:1≤n) (h4:n≤4) (lb:b<w.heap.size)
  (hc:w.cell? ⟨b,off,none⟩=some (.slice a0 n0 cap0)) (h:n0<1∨4<n0) :
  Calls Tryz.prog 129 #[aj (some ⟨b,off,none⟩) n cap] w fun e w'=>e= ah (Z I 50)∧Below w.heap.size w w':=by
 have q1:decide ((n:Int)<1)=false:=by simp;omega
 have q2:decide ((4:Int)<(n:Int))=false:=by simp;omega
 have lb1:b<w.heap.size+1:=by omega
 have h0n:0<n:=by omega
 rcases h with h|h
 ·have q3:decide ((n0:Int)<1)=true:=by simp;omega
  clear h;go_enter Tryz.func129,Tryz.ntmps129
  go_wp2_with fail
  exact bodyPost_ret (v:=Z I 50) (by simp [results,Tryz.results129,go_sem]) rfl ⟨rfl,aO⟩
 ·have q3:decide ((n0:Int)<1)=false:=by simp;omega
  have q4:decide ((4:Int)<(n0:Int))=true:=by simp;omega
  clear h;go_enter Tryz.func129,Tryz.ntmps129
  go_wp2_with fail
  exact bodyPost_ret (v:=Z I 50) (by simp [results,Tryz.results129,go_sem]) rfl ⟨rfl,aO⟩
theorem jJ (v:Value) (m:List (List Fr)) (w:World) (h:kN w v m) :
  Calls Tryz.prog 129 #[v] w fun e w'=>e= ah (Z I (Dv m))∧Below w.heap.size w w':=by
 obtain ⟨rs,hR,hm,hF⟩:=h;have hR':=hR;obtain ⟨a,cap,rfl, -⟩:=hR
 by_cases hlen:rs.length<1∨4<rs.length
 ·have e:Dv m=50:=by
   unfold Dv ZO;rw [← hm,if_neg];intro h;simp only [aD,decide_eq_true_eq] at h;omega
  rw [e];exact Gj _ _ _ w hlen
 ·have h1:1≤rs.length:=by omega
  have h4:rs.length≤4:=by omega
  have h0:0<m.length:=by omega
  rcases hR'.cases with ⟨_,h⟩|⟨b,off,cap',arr,hv,k1,k2,k3,k4⟩
  ·rw [h] at h1;simp at h1
  ·have h0r:0<rs.length:=by omega
   obtain ⟨a0,cap0,e0, -⟩:=(hF 0 h0r h0).read
   have hc:w.cell? ⟨b,off,none⟩=some (.slice a0 m[0].length cap0):=by
    have:=(k3.cell (off+0)).trans (k4 0 h0r);rw [e0] at this;exact this
   have hhd:m.headD []=m[0]:=by cases m with|nil=>simp at h0|cons x t=>rfl
   rw [hv] at hR' ⊢
   by_cases hw:m[0].length<1∨4<m[0].length
   ·have e:Dv m=50:=by
     unfold Dv ZO;rw [hhd,if_neg];intro h;simp only [aD,decide_eq_true_eq] at h;omega
    rw [e];exact Gi b off cap' _ a0 _ cap0 w h1 h4 k3.lt hc hw
   ·have e:Dv m=if m.all (fun r=>r.length == m[0].length&&jW r == 0) then 0 else 50:=by
     unfold Dv ZO;rw [hhd];have e1:decide (1≤m.length)=true:=by simp;omega
     have e2:decide (m.length≤4)=true:=by simp;omega
     have e3:decide (1≤m[0].length)=true:=by simp;omega
     have e4:decide (m[0].length≤4)=true:=by simp;omega
     rw [e1,e2,e3,e4];simp only [Bool.true_and]
    rw [e];exact Jj b off cap' rs.length m rs a0 m[0].length cap0 w rfl h1 h4 hm hR' hc zo zo hF
end Go.Proofs.matrix
namespace Go.Proofs.matrix
open Go Go.RowKit Go.SW Go.Num Go.Mem Go.Proofs Go.Dec
theorem dM (m:Value) (n:Nat) (b:Bool) (w:World) (h:aT w m n) :
  Calls Tryz.prog 135 #[m,aC b] w (fun e w'=>∃ v,e= ah v∧Below w.heap.size w w'∧bW w' v (iZ n b)):=Vj
theorem gU (z:Int) (hz:(Lib.decDigits z.natAbs).length≤600) (w:World) :
  Calls Tryz.prog 199 #[dX z] w (fun e w'=>∃ v,e= ah v∧Below w.heap.size w w'∧bW w' v z):=Zd
theorem lU (v u:Value) (z:Int) (n:Nat) (w:World) (h:bW w v z) (hu:aT w u n) (hz:sz 1000000000 z.natAbs≤549755813888) (hn:sz 1000000000 n≤549755813888) :
  Calls Tryz.prog 201 #[v,u] w (fun e w'=>∃ v,e= ah v∧Below w.heap.size w w'∧bW w' v (z*n)):=Zc
theorem EM (pa pb:Option Addr) (l m ca cb:Nat) (z y:Int) (b:Bool) (w:World) (h:aT w (aj pa l ca) z.natAbs) (h2:aT w (aj pb m cb) y.natAbs) (hz:decide (z<0)=b) (hy:decide (y<0)=b) (kz:sz 1000000000 z.natAbs≤549755813888) (ky:sz 1000000000 y.natAbs≤549755813888) :
  Calls Tryz.prog 210 #[aB #[aj pa l ca,aC b],aB #[aj pb m cb,aC b]] w (fun e w'=>∃ v,e= ah v∧Below w.heap.size w w'∧bW w' v (z+y)):=Zb
theorem EN (pa pb:Option Addr) (l m ca cb:Nat) (z y:Int) (b:Bool) (w:World) (h:aT w (aj pa l ca) z.natAbs) (h2:aT w (aj pb m cb) y.natAbs) (hz:decide (z<0)=b) (hy:decide (y<0)= !b) (kz:sz 1000000000 z.natAbs≤549755813888) (ky:sz 1000000000 y.natAbs≤549755813888) :
  Calls Tryz.prog 210 #[aB #[aj pa l ca,aC b],aB #[aj pb m cb,aC !b]] w (fun e w'=>∃ v,e= ah v∧Below w.heap.size w w'∧bW w' v (z+y)):=Za
theorem yL (v u:Value) (z y:Int) (w:World) (h:bW w v z) (h2:bW w u y) (kz:sz 1000000000 z.natAbs≤549755813888) (ky:sz 1000000000 y.natAbs≤549755813888) :
  Calls Tryz.prog 210 #[v,u] w (fun e w'=>∃ v,e= ah v∧Below w.heap.size w w'∧bW w' v (z+y)):=Y9
theorem xS (v:Value) (z:Int) (w:World) (h:bW w v z) (kz:sz 1000000000 z.natAbs≤1099511627776) (ht:iA.Pow w) :
  Calls Tryz.prog 204 #[v] w (fun e w'=>e= ah (dX z)∧Below w.heap.size w w'):=Y8
theorem uq (v u:Value) (z y:Int) (w:World) (h:bW w v z) (h2:bW w u y) (kz:sz 1000000000 z.natAbs≤549755813888) (ky:sz 1000000000 y.natAbs≤549755813888) :
  Calls Tryz.prog 208 #[v,u] w (fun e w'=>∃ v,e= ah v∧Below w.heap.size w w'∧bW w' v (z*y)):=Y7
end Go.Proofs.matrix
namespace Go.Proofs.matrix
open Go Go.RowKit Go.SW Go.Num Go.Mem Go.Proofs Go.Dec Go.d9
theorem FD (x y:Value) (a b:Nat) (w:World) (hx:aT w x a) (hy:aT w y b) (ha:0<a) (ka:sz 1000000000 a≤549755813888) (kb:sz 1000000000 b≤549755813888) :
  Calls Tryz.prog 198 #[x,y] w (fun e w'=>∃ v,e= ah v∧Below w.heap.size w w'∧aT w' v (a*(b / a.gcd b))):=by
 obtain ⟨BM,lH,Ce,rfl⟩:=hx.slice;have H:=zh hx;clear hx;obtain ⟨Sj,lG,TN,rfl⟩:=hy.slice;have G:=zh hy;clear hy;have hg:0<a.gcd b:=Nat.gcd_pos_of_pos_left _ ha;have kc:= @iF b (a.gcd b);obtain ⟨g,Eg⟩:∃ y:Nat,Hid (a.gcd b=y):=⟨_,zh rfl⟩;rw [Eg.out] at hg kc ⊢;obtain ⟨c,Ec⟩:∃ y:Nat,Hid (b / g=y):=⟨_,zh rfl⟩;rw [Ec.out] at kc ⊢;obtain ⟨d,Ed⟩:∃ y:Nat,Hid (a*c=y):=⟨_,zh rfl⟩;rw [Ed.out];have HG:=zh hg;have KC:=zh (ay kc kb);have KA:=zh ka;have KB:=zh kb;clear hg ha kc ka kb;go_enter Tryz.func198,Tryz.ntmps198
 go_wp2_with fail
 refine ((mV _ _ a b _ aK aK KA.out KB.out).mono (by rw [Eg.out];exact fun _ _ h=>h)).mono ?_;rintro e v1 ⟨v,rfl,hc1,hv⟩;obtain ⟨OH,ZW,Qx,rfl⟩:=hv.slice;have Hg:=zh hv;clear hv;replace H:=zh (aT.carry H.out aK hc1);replace G:=zh (aT.carry G.out aK hc1);go_wp2_with fail
 refine ((dG _ _ b g _ aK aK HG.out KB.out).mono (by rw [Ec.out];exact fun _ _ h=>h)).mono ?_;rintro e v2 ⟨v,vr,rfl,hc2,hv,ji⟩;obtain ⟨ZJ,lHc,ae0,rfl⟩:=hv.slice;have Hc:=zh hv;clear hv;obtain ⟨ZI,ak1,ad9,rfl⟩:=ji.slice;have Hcr:=zh ji;clear ji;replace H:=zh (aT.later H.out hc2);replace G:=zh (aT.later G.out hc2);replace Hg:=zh (aT.later Hg.out hc2);go_wp2_with fail
 refine ((iE _ _ a c _ aK aK (ay KA.out zo) (ay KC.out zo)).mono (by rw [Ed.out];exact fun _ _ h=>h)).mono ?_;rintro e v3 ⟨v,rfl,hc3,hv⟩;obtain ⟨ai7,lHd,an3,rfl⟩:=hv.slice;have Hd:=zh hv;clear hv;replace H:=zh (aT.later H.out hc3);go_wp2_with fail
 go_ret
 exact ⟨_,rfl,aO,Hd.out⟩
theorem jo (x y:Value) (n d:Int) (w:World) (hx:bW w x n) (hy:bW w y d) (hd:d≠0) (kn:sz 1000000000 n.natAbs≤549755813888) (kd:sz 1000000000 d.natAbs≤549755813888) (ht:iA.Pow w) :
  Calls Tryz.prog 133 #[x,y] w (fun e w'=>e= ah (Fr.res (wr ((n:Rat) / (d:Rat))))∧Below w.heap.size w w'):=by
 obtain ⟨BM,lH,Ce,rfl,H⟩:=hx;replace H:=zh H;obtain ⟨Sj,lG,TN,rfl,G⟩:=hy;replace G:=zh G;have hdp:0<d.natAbs:=by omega
 rw [← Ki n d hd];have hp:=rE (iZ n.natAbs (!(decide (n<0) == decide (d<0)))) hdp;rw [jg] at hp;have hg:0<n.natAbs.gcd d.natAbs:=Nat.gcd_pos_of_pos_right _ hdp;have kt:= @iF n.natAbs (n.natAbs.gcd d.natAbs);have kb:= @iF d.natAbs (n.natAbs.gcd d.natAbs);obtain ⟨q,Eq⟩:∃ y:Rat,Hid (mkRat (iZ n.natAbs (Bool.not (decide (n<0) == decide (d<0)))) d.natAbs=y):=⟨_,zh rfl⟩;rw [show mkRat (iZ n.natAbs (!(decide (n<0) == decide (d<0)))) d.natAbs=q from Eq.out] at hp ⊢;obtain ⟨g,Eg⟩:∃ y:Nat,Hid (n.natAbs.gcd d.natAbs=y):=⟨_,zh rfl⟩;rw [Eg.out] at hg kt kb hp;obtain ⟨t,Et⟩:∃ y:Nat,Hid (n.natAbs / g=y):=⟨_,zh rfl⟩;rw [Et.out] at kt hp;obtain ⟨b,Eb⟩:∃ y:Nat,Hid (d.natAbs / g=y):=⟨_,zh rfl⟩;rw [Eb.out] at kb hp;have PG:q.num.natAbs=t:=by rw [hp.1,jg]
 have hden:q.den=b:=hp.2
 have Ta:q.num=iZ t (!(decide (n<0) == decide (d<0))):=by
  rw [hp.1];unfold iZ
  by_cases h0:t=0
  ·simp [h0]
  ·have hn0:n.natAbs≠0:=fun e=>h0 (by rw [← Et.out,e];simp)
   by_cases h1:n<0<;>by_cases h2:d<0<;>simp [h1,h2]<;>omega
 have HG:=zh hg;have KT:=zh (ay kt kn);have KB:=zh (ay kb kd);have KN:=zh kn;have KD:=zh kd;have HT:=zh ht;clear hg kt kb kn kd ht hp hd hdp
 rcases aH 600 (Lib.decDigits t).length with h1|h1
 ·rw [qQ (by unfold iG;rw [PG,zB h1];rfl)];clear PG hden Ta;go_enter Tryz.func133,Tryz.ntmps133
  go_wp2_with fail
  refine ((mV _ _ n.natAbs d.natAbs _ aK aK KN.out KD.out).mono (by rw [Eg.out];exact fun _ _ h=>h)).mono ?_;rintro e v1 ⟨v,rfl,hc1,hv⟩;obtain ⟨OH,ZW,Qx,rfl⟩:=hv.slice;have Hg:=zh hv;clear hv;replace H:=zh (aT.carry H.out aK hc1);replace G:=zh (aT.carry G.out aK hc1);have BR:=aA.later (aA.at2 _ _ _ _ _) hc1;have bR:=BR.cell;have bQ:=BR.free;have gT:=BR.lt;have B1:=aA.later (aA.alloc (aA.nX _ _ _ _) _) hc1;have cB1:=B1.cell;have nW:=B1.free;have lB1:=B1.lt;have B0:=aA.later (aA.alloc (aA.alloc (aA.new _ _ _) _) _) hc1;have cB0:=B0.cell;have jc:=B0.free;have lB0:=B0.lt;go_wp2_with fail
  refine ((dG _ _ n.natAbs g _ aK aK HG.out KN.out).mono (by rw [Et.out];exact fun _ _ h=>h)).mono ?_;rintro e v2 ⟨v,vr,rfl,hc2,hv,ji⟩;obtain ⟨Wj,lHt,XF,rfl⟩:=hv.slice;have Ht:=zh hv;clear hv;obtain ⟨UD,ZU,U7,rfl⟩:=ji.slice;have Htr:=zh ji;clear ji;replace H:=zh (aT.later H.out hc2);replace G:=zh (aT.later G.out hc2);replace Hg:=zh (aT.later Hg.out hc2);replace BR:=aA.later (BR) hc2;replace bR:=BR.cell;replace bQ:=BR.free;replace gT:=BR.lt;replace B1:=aA.later (B1) hc2;replace cB1:=B1.cell;replace nW:=B1.free;replace lB1:=B1.lt;replace B0:=aA.later (B0) hc2;replace cB0:=B0.cell;replace jc:=B0.free;replace lB0:=B0.lt;go_wp2_with fail
  refine ((dG _ _ d.natAbs g _ aK aK HG.out KD.out).mono (by rw [Eb.out];exact fun _ _ h=>h)).mono ?_;rintro e v3 ⟨v,vr,rfl,hc3,hv,ji⟩;obtain ⟨Si,lHb,TM,rfl⟩:=hv.slice;have Hb:=zh hv;clear hv;obtain ⟨OI,WE,Qy,rfl⟩:=ji.slice;have Hbr:=zh ji;clear ji;replace Ht:=zh (aT.later Ht.out hc3);replace BR:=aA.later (BR) hc3;replace bR:=BR.cell;replace bQ:=BR.free;replace gT:=BR.lt;replace B1:=aA.later (B1) hc3;replace cB1:=B1.cell;replace nW:=B1.free;replace lB1:=B1.lt;replace B0:=aA.later (B0) hc3;replace cB0:=B0.cell;replace jc:=B0.free;replace lB0:=B0.lt;go_wp2_with fail
  refine (gW _ t _ aK (ay KT.out zo) (HT.out.later aO)).mono ?_;rintro e v4 ⟨rfl,hc4⟩;replace BR:=aA.later (BR) hc4;replace bR:=BR.cell;replace bQ:=BR.free;replace gT:=BR.lt;go_wp2_with fail
  refine bE rfl rfl aY Tryz.underlying38 rfl zk ?_;exact ⟨rfl,aO⟩
 ·rcases aH 600 (Lib.decDigits b).length with h2|h2
  ·rw [qQ (by unfold iG;rw [hden,zB h2,Bool.and_false])];clear PG hden Ta;go_enter Tryz.func133,Tryz.ntmps133
   go_wp2_with fail
   refine ((mV _ _ n.natAbs d.natAbs _ aK aK KN.out KD.out).mono (by rw [Eg.out];exact fun _ _ h=>h)).mono ?_;rintro e v1 ⟨v,rfl,hc1,hv⟩;obtain ⟨OH,ZW,Qx,rfl⟩:=hv.slice;have Hg:=zh hv;clear hv;replace H:=zh (aT.carry H.out aK hc1);replace G:=zh (aT.carry G.out aK hc1);have BR:=aA.later (aA.at2 _ _ _ _ _) hc1;have bR:=BR.cell;have bQ:=BR.free;have gT:=BR.lt;have B1:=aA.later (aA.alloc (aA.nX _ _ _ _) _) hc1;have cB1:=B1.cell;have nW:=B1.free;have lB1:=B1.lt;have B0:=aA.later (aA.alloc (aA.alloc (aA.new _ _ _) _) _) hc1;have cB0:=B0.cell;have jc:=B0.free;have lB0:=B0.lt;go_wp2_with fail
   refine ((dG _ _ n.natAbs g _ aK aK HG.out KN.out).mono (by rw [Et.out];exact fun _ _ h=>h)).mono ?_;rintro e v2 ⟨v,vr,rfl,hc2,hv,ji⟩;obtain ⟨Wj,lHt,XF,rfl⟩:=hv.slice;have Ht:=zh hv;clear hv;obtain ⟨UD,ZU,U7,rfl⟩:=ji.slice;have Htr:=zh ji;clear ji;replace H:=zh (aT.later H.out hc2);replace G:=zh (aT.later G.out hc2);replace Hg:=zh (aT.later Hg.out hc2);replace BR:=aA.later (BR) hc2;replace bR:=BR.cell;replace bQ:=BR.free;replace gT:=BR.lt;replace B1:=aA.later (B1) hc2;replace cB1:=B1.cell;replace nW:=B1.free;replace lB1:=B1.lt;replace B0:=aA.later (B0) hc2;replace cB0:=B0.cell;replace jc:=B0.free;replace lB0:=B0.lt;go_wp2_with fail
   refine ((dG _ _ d.natAbs g _ aK aK HG.out KD.out).mono (by rw [Eb.out];exact fun _ _ h=>h)).mono ?_;rintro e v3 ⟨v,vr,rfl,hc3,hv,ji⟩;obtain ⟨Si,lHb,TM,rfl⟩:=hv.slice;have Hb:=zh hv;clear hv;obtain ⟨OI,WE,Qy,rfl⟩:=ji.slice;have Hbr:=zh ji;clear ji;replace Ht:=zh (aT.later Ht.out hc3);replace BR:=aA.later (BR) hc3;replace bR:=BR.cell;replace bQ:=BR.free;replace gT:=BR.lt;replace B1:=aA.later (B1) hc3;replace cB1:=B1.cell;replace nW:=B1.free;replace lB1:=B1.lt;replace B0:=aA.later (B0) hc3;replace cB0:=B0.cell;replace jc:=B0.free;replace lB0:=B0.lt;go_wp2_with fail
   refine (gW _ t _ aK (ay KT.out zo) (HT.out.later aO)).mono ?_;rintro e v4 ⟨rfl,hc4⟩;replace Ht:=zh (aT.later Ht.out hc4);replace Hb:=zh (aT.later Hb.out hc4);replace BR:=aA.later (BR) hc4;replace bR:=BR.cell;replace bQ:=BR.free;replace gT:=BR.lt;go_wp2_with fail
   refine (gW _ b _ aK (ay KB.out zo) (HT.out.later aO)).mono ?_;rintro e v5 ⟨rfl,kK⟩;replace BR:=aA.later (BR) kK;replace bR:=BR.cell;replace bQ:=BR.free;replace gT:=BR.lt;go_wp2_with fail
   refine bE rfl rfl aY Tryz.underlying38 rfl zk ?_;exact ⟨rfl,aO⟩
  ·rw [NJ (by unfold iG;rw [PG,hden,eZ.2 h1,eZ.2 h2];rfl),Ta,hden];obtain ⟨s,Es⟩:∃ y:Int,Hid (iZ t (Bool.not (decide (n<0) == decide (d<0)))=y):=⟨_,zh rfl⟩;rw [show iZ t (!(decide (n<0) == decide (d<0)))=s from Es.out];have KS:Hid (sz 1000000000 s.natAbs≤549755813888):=by unfold Hid;rw [← Es.out,jg];exact KT.out
   clear PG hden Ta;go_enter Tryz.func133,Tryz.ntmps133
   go_wp2_with fail
   refine ((mV _ _ n.natAbs d.natAbs _ aK aK KN.out KD.out).mono (by rw [Eg.out];exact fun _ _ h=>h)).mono ?_;rintro e v1 ⟨v,rfl,hc1,hv⟩;obtain ⟨OH,ZW,Qx,rfl⟩:=hv.slice;have Hg:=zh hv;clear hv;replace H:=zh (aT.carry H.out aK hc1);replace G:=zh (aT.carry G.out aK hc1);have BR:=aA.later (aA.at2 _ _ _ _ _) hc1;have bR:=BR.cell;have bQ:=BR.free;have gT:=BR.lt;have B1:=aA.later (aA.alloc (aA.nX _ _ _ _) _) hc1;have cB1:=B1.cell;have nW:=B1.free;have lB1:=B1.lt;have B0:=aA.later (aA.alloc (aA.alloc (aA.new _ _ _) _) _) hc1;have cB0:=B0.cell;have jc:=B0.free;have lB0:=B0.lt;go_wp2_with fail
   refine ((dG _ _ n.natAbs g _ aK aK HG.out KN.out).mono (by rw [Et.out];exact fun _ _ h=>h)).mono ?_;rintro e v2 ⟨v,vr,rfl,hc2,hv,ji⟩;obtain ⟨Wj,lHt,XF,rfl⟩:=hv.slice;have Ht:=zh hv;clear hv;obtain ⟨UD,ZU,U7,rfl⟩:=ji.slice;have Htr:=zh ji;clear ji;replace H:=zh (aT.later H.out hc2);replace G:=zh (aT.later G.out hc2);replace Hg:=zh (aT.later Hg.out hc2);replace BR:=aA.later (BR) hc2;replace bR:=BR.cell;replace bQ:=BR.free;replace gT:=BR.lt;replace B1:=aA.later (B1) hc2;replace cB1:=B1.cell;replace nW:=B1.free;replace lB1:=B1.lt;replace B0:=aA.later (B0) hc2;replace cB0:=B0.cell;replace jc:=B0.free;replace lB0:=B0.lt;go_wp2_with fail
   refine ((dG _ _ d.natAbs g _ aK aK HG.out KD.out).mono (by rw [Eb.out];exact fun _ _ h=>h)).mono ?_;rintro e v3 ⟨v,vr,rfl,hc3,hv,ji⟩;obtain ⟨Si,lHb,TM,rfl⟩:=hv.slice;have Hb:=zh hv;clear hv;obtain ⟨OI,WE,Qy,rfl⟩:=ji.slice;have Hbr:=zh ji;clear ji;replace Ht:=zh (aT.later Ht.out hc3);replace BR:=aA.later (BR) hc3;replace bR:=BR.cell;replace bQ:=BR.free;replace gT:=BR.lt;replace B1:=aA.later (B1) hc3;replace cB1:=B1.cell;replace nW:=B1.free;replace lB1:=B1.lt;replace B0:=aA.later (B0) hc3;replace cB0:=B0.cell;replace jc:=B0.free;replace lB0:=B0.lt;go_wp2_with fail
   refine (gW _ t _ aK (ay KT.out zo) (HT.out.later aO)).mono ?_;rintro e v4 ⟨rfl,hc4⟩;replace Ht:=zh (aT.later Ht.out hc4);replace Hb:=zh (aT.later Hb.out hc4);replace BR:=aA.later (BR) hc4;replace bR:=BR.cell;replace bQ:=BR.free;replace gT:=BR.lt;replace B1:=aA.later (B1) hc4;replace cB1:=B1.cell;replace nW:=B1.free;replace lB1:=B1.lt;replace B0:=aA.later (B0) hc4;replace cB0:=B0.cell;replace jc:=B0.free;replace lB0:=B0.lt;go_wp2_with fail
   refine (gW _ b _ aK (ay KB.out zo) (HT.out.later aO)).mono ?_;rintro e v5 ⟨rfl,kK⟩;replace Ht:=zh (aT.later Ht.out kK);replace Hb:=zh (aT.later Hb.out kK);replace BR:=aA.later (BR) kK;replace bR:=BR.cell;replace bQ:=BR.free;replace gT:=BR.lt;replace B1:=aA.later (B1) kK;replace cB1:=B1.cell;replace nW:=B1.free;replace lB1:=B1.lt;replace B0:=aA.later (B0) kK;replace cB0:=B0.cell;replace jc:=B0.free;replace lB0:=B0.lt;go_wp2_with fail
   refine ((dM _ t _ _ aK).mono (by rw [show iZ t (!(decide (n<0) == decide (d<0)))=s from Es.out];exact fun _ _ h=>h)).mono ?_;rintro e v6 ⟨v,rfl,hc6,hv⟩;obtain ⟨xG,Nw,xQ,rfl,Hs⟩:=hv;replace Hs:=zh Hs;replace Hb:=zh (aT.later Hb.out hc6);replace BR:=aA.later (BR) hc6;replace bR:=BR.cell;replace bQ:=BR.free;replace gT:=BR.lt;go_wp2_with fail
   refine ((xS _ s _ (bW.dx aK) (ay KS.out zo) (HT.out.later aO)).mono (fun _ _ h=>by unfold dX at h;exact h)).mono ?_;rintro e v7 ⟨rfl,AX⟩;replace Hb:=zh (aT.later Hb.out AX);replace BR:=aA.later (BR) AX;replace bR:=BR.cell;replace bQ:=BR.free;replace gT:=BR.lt;go_wp2_with fail
   refine (lV _ b _ aK (ay KB.out zo) (HT.out.later aO)).mono ?_;rintro e v8 ⟨rfl,hc8⟩;replace BR:=aA.later (BR) hc8;replace bR:=BR.cell;replace bQ:=BR.free;replace gT:=BR.lt;go_wp2_with fail
   refine bE rfl rfl aY Tryz.underlying38 rfl zk ?_;exact ⟨rfl,aO⟩
end Go.Proofs.matrix
