/- Lemmas for the proof. No condition. -/
import Derived.Test.YtbngfhgoeoncmaaGreatDoorWB08
import Derived.Test.YtbngfhgoeoncmaaGreatDoorWB10
import Derived.RangeFuncNested
import Derived.RangeFuncBound
import Derived.RangeFuncCalls
import Derived.RangeFuncFrom
set_option linter.unusedVariables false
set_option linter.unusedSimpArgs false
set_option maxRecDepth 100000
set_option maxHeartbeats 16000000
open Bool renaming and_eq_true → aF
open Go.Ending renaming returned → aj
open Go.IntKind renaming i64 → I
open Go.Value renaming agg → aB, bool → ak, int → Z, pointer → ay, slice → ah, string → O, tuple → aD
open List renaming all_eq_true → dI, cons_append → bP, getElem_mem → dx, length_cons → aV, map_cons → bH, take_length → eX
open Nat renaming le_refl → aC, le_trans → au, lt_or_ge → aH, mul_pos → gV
namespace Go.Proofs.matrix
open Go Go.RowKit Go.SW Go.Num Go.Mem Go.Proofs Go.Dec Go.fG
theorem Ap (v:Value) (l:List Fr) (T:TypeId) (w:World) (h:vC w T v l) :
  Calls Tryz.prog 130 #[v] w (fun e w'=>e= aj (Z I (jU l))∧Bw w w'):=by
 obtain ⟨a,cap,rfl,hc1,hc2,hread⟩:=h.read;have H:=zh hread;clear h hread;go_enter Tryz.func130,Tryz.ntmps130
 go_wp2_with fail
 go_loopw [7] (fun iv wr=>∃ k:Nat,iv= Z I (k:Int)∧k≤l.length∧Hid (∀ j (h:j<l.length),j<k→(rd l[j]).isSome=true)∧Bw w wr) (fun iv _=>l.length - (intOf iv).toNat)
 case atStart=>exact ⟨0,rfl,by omega,zh (fun j _ h=>by omega),Below.refl _ _⟩
 case round =>
  obtain ⟨k,rfl,hk,HK,hb⟩:=hrel
  rcases aH k l.length with hlt|hge
  ·obtain ⟨b,off,rfl,hbl,hx1,hx2⟩:=H.out k hlt;have hc1:=(hb.cell (p:=⟨b,off+k*2,none⟩) hbl).trans hx1;have hc2:=(hb.cell (p:=⟨b,off+k*2+1,none⟩) hbl).trans hx2;clear hx1 hx2;have hck:=dZ.mE l[k];generalize hlk:l[k]=lk at *;obtain ⟨s,t⟩:=lk;cases hv:(rd ⟨s,t⟩).isSome with
   | true =>
    rw [FZ hv] at hck;have Ig:Hid (∀ w,Calls Tryz.prog 69 #[aB #[O s,O t]] w (fun e w'=>e= aj (Z I 0)∧Bw w w')):=zh hck;have HLK:=zh hlk;have HV:=zh hv;clear hck hlk hv;go_wp2_with fail
    refine (Ig.out _).mono ?_;rintro e v1 ⟨rfl,hc1⟩;go_wp2_with fail
    go_roundw
    case rel =>
     refine ⟨k+1,by go_num,by omega,zh fun j hj hjk=>?_,Bt hb aI⟩
     rcases aH j k with h|h
     ·exact HK.out j hj h
     ·obtain rfl:j=k:=by omega
      rw [HLK.out];exact HV.out
    case measure=>exact zM
   | false =>
    rw [PD hv] at hck;have Ig:Hid (∀ w,Calls Tryz.prog 69 #[aB #[O s,O t]] w (fun e w'=>e= aj (Z I 20)∧Bw w w')):=zh hck
    have hno:jU l=20:=by
     unfold jU;rw [if_neg];intro h;have:=List.all_eq_true.1 h l[k] (dx _);rw [hlk,hv] at this;cases this
    have HNO:=zh hno;clear hck hlk hv hno;go_wp2_with fail
    refine (Ig.out _).mono ?_;rintro e v1 ⟨rfl,hc1⟩;go_wp2_with fail
    go_ret
    exact ⟨by rw [HNO.out];rfl,Bt hb aI⟩
  ·have hyes:jU l=0:=by
    unfold jU;rw [if_pos];rw [dI];intro x hx;obtain ⟨j,hj,rfl⟩:=List.getElem_of_mem hx;exact HK.out j hj zo
   have XD:=zh hyes;clear hyes;obtain rfl:k=l.length:=by omega
   go_wp2_with fail
   go_ret
   exact ⟨by rw [XD.out];rfl,hb⟩
end Go.Proofs.matrix
namespace Go.Proofs.matrix
open Go Go.RowKit Go.Shelf Go.SW Go.Num Go.Mem Go.Proofs Go.Dec Go.fG
attribute [local go_sem] Oper.semAt_some
theorem gK {W W':World} (h:Bw W W'):KeepsOthers W W' :=
 ⟨h.size,fun k o hk _=>(h.block k (Array.getElem?_eq_some_iff.1 hk).1).trans hk⟩
theorem iF {W W':World} {row:Option Nat} {b:Nat} {cs:Array Value} {T:TypeId} (h:aA W b cs T) (hg:W.grownBy W' row) (hr:∀ r,row=some r→∃ o:Obj,W.heap[r]? =some o∧o.isCells=false):aA W' b cs T:=by
 unfold aA at *;rw [hg.block b (Array.getElem?_eq_some_iff.1 h).1 ?_]
 ·exact h
 ·intro e;obtain ⟨o,ho,hc⟩:=hr b e.symm;rw [h] at ho;cases ho
  cases hc
theorem PE (b off cap n:Nat) (m:List (List Fr)) (rs:List Value) (a0:Option Addr) (n0 cap0:Nat) (w:World) (hn:rs.length=n) (h1:1≤n) (h4:n≤4) (hm:rs.length=m.length) (hR:Row w 130 (ah (some ⟨b,off,none⟩) n cap) rs)
  (hc:w.cell? ⟨b,off,none⟩=some (.slice a0 n0 cap0)) (k1:1≤n0) (k4:n0≤4)
  (hF:∀ i (h:i<rs.length) (h':i<m.length),vC w 38 rs[i] m[i]) :
  Calls Tryz.prog 129 #[ah (some ⟨b,off,none⟩) n cap] w fun e w'=>e= aj (Z I (if m.all (fun r=>r.length == n0&&jU r == 0) then 0 else 50))∧Bw w w':=by
 have lb:b<w.heap.size:=by
  rcases hR.cases with ⟨h,_⟩|⟨b',off',cap',arr,h,_,_,h3,_⟩
  ·cases h
  ·simp only [Value.slice.injEq,Option.some.injEq,Addr.mk.injEq,and_true] at h;rw [h.1.1];exact h3.lt
 have lb1:b<w.heap.size+1:=by omega
 have q1:decide ((n:Int)<1)=false:=by simp;omega
 have q2:decide ((4:Int)<(n:Int))=false:=by simp;omega
 have q3:decide ((n0:Int)<1)=false:=by simp;omega
 have q4:decide ((4:Int)<(n0:Int))=false:=by simp;omega
 have h0n:0<n:=by omega
 have HR:=zh hR;have HF:=zh hF;have HM:=zh hm;have HN:=zh hn;clear hR hF hm hn;obtain ⟨z,Ez⟩:∃ y:Int,Hid ((if m.all (fun r=>r.length == n0&&jU r == 0) then 0 else 50)=y):=⟨_,zh rfl⟩;rw [Ez.out];refine (callsIn_wide (n:=3)).1 ?_;refine callsIn_of_wp_marks Tryz.func129 rfl trivial ?_ rfl;simp only [Tryz.ntmps129,List.size_toArray,aV,List.length_nil,Nat.reduceAdd,Nat.reduceSub,Array.replicate_succ,Array.replicate_zero,List.push_toArray,List.append_toArray,List.nil_append,bP]
 gi_wp2_with (refine ⟨trivial,?_⟩;gi_at_call 197;refine (Lf Fence.wide 2 trivial rfl _ _ _ _).mono ?_;rintro e w' ⟨rfl,rfl⟩)
 have hB0:Below w.heap.size w (((w.alloc (.cells #[ah (some ⟨b,off,none⟩) n cap] 126)).alloc (.cells #[Z I 0] 28)).alloc (.cells #[ah (some ⟨b,off,none⟩) n cap] 126)):=aI;have hbx0:aA (((w.alloc (.cells #[ah (some ⟨b,off,none⟩) n cap] 126)).alloc (.cells #[Z I 0] 28)).alloc (.cells #[ah (some ⟨b,off,none⟩) n cap] 126)) w.heap.size #[ah (some ⟨b,off,none⟩) n cap] 126:=bq;have Pf:aA (((w.alloc (.cells #[ah (some ⟨b,off,none⟩) n cap] 126)).alloc (.cells #[Z I 0] 28)).alloc (.cells #[ah (some ⟨b,off,none⟩) n cap] 126)) (w.heap.size+1) #[Z I 0] 28:=bq;have tL:aA (((w.alloc (.cells #[ah (some ⟨b,off,none⟩) n cap] 126)).alloc (.cells #[Z I 0] 28)).alloc (.cells #[ah (some ⟨b,off,none⟩) n cap] 126)) (w.heap.size+1+1) #[ah (some ⟨b,off,none⟩) n cap] 126:=bq
 refine wpIn_rangeFunc_ownF (α:=Fin rs.length) rfl zo (gf:=264) (lb:=#[ay (some ⟨w.heap.size+1+1,0,none⟩)]) rfl trivial (enters_of Tryz.func264 zk rfl)
  (BJ Fence.wide 2 trivial rfl zo (w.heap.size+1+1) w.heap.size _ rs w _ tL.lt hB0.size ((tL.cell 0).trans rfl) HR.out (aC _) hB0) belowK_t (belowK_b hB0.size) (Below.refl _ _) (fun _=>rfl)
  (fun pre W=>(Hid (∀ x∈pre,((m.getD x.1 []).length == n0&&jU (m.getD x.1 []) == 0)=true)∧aA W w.heap.size #[ah (some ⟨b,off,none⟩) n cap] 126∧aA W (w.heap.size+1) #[Z I 0] 28)∧Bw w W)
  (fun c pre W=>(c= .ret∧Hid (∃ x:Fin rs.length,((m.getD x.1 []).length == n0&&jU (m.getD x.1 []) == 0)=false)∧aA W (w.heap.size+1) #[Z I 50] 28)∧Bw w W)
  (OwnFrom.and (Own.from (fun s A B row hs hg hr=>⟨hs.1,iF hs.2.1 hg hr,iF hs.2.2 hg hr⟩) _) (ownFrom_below (aC _) hB0.size))
  (fun c=>OwnFrom.and (Own.from (fun s A B row hs hg hr=>⟨hs.1,hs.2.1,iF hs.2.2 hg hr⟩) _) (ownFrom_below (aC _) hB0.size))
  ⟨⟨zh zi,hbx0,Pf⟩,hB0⟩ ?a1 ?assign ?body ?done ?stop
 case assign =>
  intro l x W K hK;unfold enc
  gi_wp2
  exact hK
 case body =>
  rintro l pre x W ⟨⟨hp,hb0,hb1⟩,hB⟩ _;have hxm:x.1<m.length:=HM.out ▸ x.2;have hgd:m.getD x.1 []=m[x.1]:=by simp [hxm]
  have hfr:=HF.out x.1 x.2 hxm;obtain ⟨a',cap',hre,k5,k6, -⟩:=hfr.read;have Uf:=zh (hfr.later hB);have cm:=(hB.cell (p:=⟨b,off,none⟩) lb).trans hc;have c0:=hb0.cell;have f1:=hb1.free;have c1:=hb1.cell;have e5:∀ y,m.getD x.1 []=y→((y.length == n0&&jU y == 0)=((m.getD x.1 []).length == n0&&jU (m.getD x.1 []) == 0)):=fun y h=>by rw [h]
  have HE5:=zh (e5 _ hgd);clear hfr e5 hgd hc;generalize rs[x.1]=rx at *;subst hre;generalize hmx:m[x.1]=mx at *;have HMX:=zh hmx;clear hmx
  by_cases hl:mx.length=n0
  ·have b1:((mx.length:Int) != (n0:Int))=false:=by simp [hl]
   have hch:jU mx=0∨jU mx=20:=by unfold jU;split<;>simp
   have HL:=zh hl;have Ig:=zh (fun W h=>Ap (ah a' mx.length cap') mx 38 W h);clear hl
   rcases hch with hch|hch
   ·have Qf:=zh hch;clear hch;rw [Qf.out] at Ig
    gi_wp2_with (refine ⟨trivial,?_⟩;gi_at_call 130;refine (CallsIn.inRound l (callsIn_wide.2 (Ig.out _ Uf.out))).mono ?_;rintro e w1 ⟨rfl,hc1⟩)
    refine ⟨gK hc1,hc1.mono hB.size,⟨⟨zh fun y hy=>?_,hb0.later hc1,hb1.later hc1⟩,hB.trans (hc1.mono hB.size)⟩⟩
    rcases List.mem_append.1 hy with h|h
    ·exact hp.out y h
    ·rw [List.mem_singleton] at h;subst h;rw [← HE5.out,Qf.out,HL.out];simp
   ·have Qf:=zh hch;clear hch;rw [Qf.out] at Ig
    gi_wp2_with (refine ⟨trivial,?_⟩;gi_at_call 130;refine (CallsIn.inRound l (callsIn_wide.2 (Ig.out _ Uf.out))).mono ?_;rintro e w1 ⟨rfl,hc1⟩;have hb2:=hb1.later hc1;have c2:=hb2.cell;have f2:=hb2.free)
    refine ⟨(gK hc1).trans (KeepsOthers.setCell _ _ _),⟨⟨rfl,zh ⟨x,?_⟩,hb2.set 0 _⟩,(hB.trans (hc1.mono hB.size)).setCell zi _⟩⟩;rw [← HE5.out,Qf.out,HL.out];simp
  ·have b1:((mx.length:Int) != (n0:Int))=true:=by simp;omega
   have HL:=zh hl;clear hl
   gi_wp2
   refine ⟨trivial,?_⟩
   gi_wp2
   refine ⟨KeepsOthers.setCell _ _ _,⟨⟨rfl,zh ⟨x,?_⟩,hb1.set 0 _⟩,hB.setCell zi _⟩⟩;rw [← HE5.out];have:=HL.out;simp [this]
 case done =>
  rintro D ys W hD rfl ⟨⟨hp,hb0,hb1⟩,hB⟩ hK;have c1:=hb1.cell;have f1:=hb1.free
  have hall:m.all (fun r=>r.length == n0&&jU r == 0)=true:=by
   rw [dI];intro r hr;obtain ⟨i,hi,rfl⟩:=List.getElem_of_mem hr;have h2:i<rs.length:=by rw [HM.out];exact hi
   have:=hp.out ⟨i,h2⟩ (by unfold upto;rw [List.mem_ofFn];exact ⟨⟨i,h2⟩,rfl⟩)
   simpa [hi] using this
  have hz:z=0:=by rw [← Ez.out,if_pos hall]
  have HZ:=zh hz;clear hall hz
  gi_wp2
  have hb2:=hb1.set 0 (Z I 0);have hK':=(KeepsOthers.setCell W ⟨w.heap.size+1,0,none⟩ (Z I 0)).same D _ hK rfl;refine ⟨by simp,.inl ⟨_,_,rfl,run_takeDeferred hK',?_⟩⟩;have hb3:=iF hb2 (grownBy_putObj' _ D (.deferred none)) (fun r e=>by cases e;exact ⟨_,hK',rfl⟩);have nO:=hb3.cell 0;refine ⟨Z I 0,?_,by rw [HZ.out],(hB.setCell (p:=⟨w.heap.size+1,0,none⟩) zi _).trans (belowK_b (w:=w) (aC _) _ D _ _ (by simp at hD;omega) hK' rfl rfl)⟩;simp [results,Tryz.f129,go_sem,nO]
 case stop =>
  rintro D c pre W hD hpre ⟨⟨rfl,hin,hb1⟩,hB⟩ hK
  have hz:z=50:=by
   rw [← Ez.out,if_neg];intro h;obtain ⟨x,hx⟩:=hin.out;have hxm:x.1<m.length:=HM.out ▸ x.2;have h2:=List.all_eq_true.1 h m[x.1] (dx _);have hgd:m.getD x.1 []=m[x.1]:=by simp [hxm]
   rw [hgd,h2] at hx;cases hx
  have HZ:=zh hz;clear hz
  gi_wp2
  refine ⟨by simp,.inl ⟨_,_,rfl,run_takeDeferred hK,?_⟩⟩;have hb3:=iF hb1 (grownBy_putObj' _ D (.deferred none)) (fun r e=>by cases e;exact ⟨_,hK,rfl⟩);have nO:=hb3.cell 0;refine ⟨Z I 50,?_,by rw [HZ.out],hB.trans (belowK_b (w:=w) (aC _) W D _ _ (by simp at hD;omega) hK rfl rfl)⟩;simp [results,Tryz.f129,go_sem,nO]
end Go.Proofs.matrix
namespace Go.Proofs.matrix
open Go Go.RowKit Go.SW Go.Num Go.Mem Go.Proofs Go.Dec Go.fG
theorem M0 (a:Option Addr) (n cap:Nat) (w:World) (h:n<1∨4<n) :
  Calls Tryz.prog 129 #[ah a n cap] w fun e w'=>e= aj (Z I 50)∧Bw w w':=by
 rcases h with h|h
 ·have q1:decide ((n:Int)<1)=true:=by simp;omega
  clear h;go_enter Tryz.func129,Tryz.ntmps129
  go_wp2_with fail
  exact bodyPost_ret (v:=Z I 50) (by simp [results,Tryz.results129,go_sem]) rfl ⟨rfl,aI⟩
 ·have q1:decide ((n:Int)<1)=false:=by simp;omega
  have q2:decide ((4:Int)<(n:Int))=true:=by simp;omega
  clear h;go_enter Tryz.func129,Tryz.ntmps129
  go_wp2_with fail
  exact bodyPost_ret (v:=Z I 50) (by simp [results,Tryz.results129,go_sem]) rfl ⟨rfl,aI⟩
theorem MZ (b off cap n:Nat) (a0:Option Addr) (n0 cap0:Nat) (w:World) (h1:1≤n) (h4:n≤4) (lb:b<w.heap.size)
  (hc:w.cell? ⟨b,off,none⟩=some (.slice a0 n0 cap0)) (h:n0<1∨4<n0) :
  Calls Tryz.prog 129 #[ah (some ⟨b,off,none⟩) n cap] w fun e w'=>e= aj (Z I 50)∧Bw w w':=by
 have q1:decide ((n:Int)<1)=false:=by simp;omega
 have q2:decide ((4:Int)<(n:Int))=false:=by simp;omega
 have lb1:b<w.heap.size+1:=by omega
 have h0n:0<n:=by omega
 rcases h with h|h
 ·have q3:decide ((n0:Int)<1)=true:=by simp;omega
  clear h;go_enter Tryz.func129,Tryz.ntmps129
  go_wp2_with fail
  exact bodyPost_ret (v:=Z I 50) (by simp [results,Tryz.results129,go_sem]) rfl ⟨rfl,aI⟩
 ·have q3:decide ((n0:Int)<1)=false:=by simp;omega
  have q4:decide ((4:Int)<(n0:Int))=true:=by simp;omega
  clear h;go_enter Tryz.func129,Tryz.ntmps129
  go_wp2_with fail
  exact bodyPost_ret (v:=Z I 50) (by simp [results,Tryz.results129,go_sem]) rfl ⟨rfl,aI⟩
theorem kI (v:Value) (m:List (List Fr)) (w:World) (h:nQ w v m) :
  Calls Tryz.prog 129 #[v] w fun e w'=>e= aj (Z I (Kk m))∧Bw w w':=by
 obtain ⟨rs,hR,hm,hF⟩:=h;have hR':=hR;obtain ⟨a,cap,rfl, -⟩:=hR
 by_cases hlen:rs.length<1∨4<rs.length
 ·have e:Kk m=50:=by
   unfold Kk okM;rw [← hm,if_neg];intro h;simp only [aF,decide_eq_true_eq] at h;omega
  rw [e];exact M0 _ _ _ w hlen
 ·have h1:1≤rs.length:=by omega
  have h4:rs.length≤4:=by omega
  have h0:0<m.length:=by omega
  rcases hR'.cases with ⟨_,h⟩|⟨b,off,cap',arr,hv,k1,k2,k3,k4⟩
  ·rw [h] at h1;simp at h1
  ·have h0r:0<rs.length:=by omega
   obtain ⟨a0,cap0,e0, -⟩:=(hF 0 h0r h0).read
   have hc:w.cell? ⟨b,off,none⟩=some (.slice a0 m[0].length cap0):=by
    have:=(k3.cell (off+0)).trans (k4 0 h0r);rw [e0] at this;exact this
   have hhd:m.headD []=m[0]:=by cases m with|nil=>simp at h0|cons x t=>rfl
   rw [hv] at hR' ⊢
   by_cases hw:m[0].length<1∨4<m[0].length
   ·have e:Kk m=50:=by
     unfold Kk okM;rw [hhd,if_neg];intro h;simp only [aF,decide_eq_true_eq] at h;omega
    rw [e];exact MZ b off cap' _ a0 _ cap0 w h1 h4 k3.lt hc hw
   ·have e:Kk m=if m.all (fun r=>r.length == m[0].length&&jU r == 0) then 0 else 50:=by
     unfold Kk okM;rw [hhd];have e1:decide (1≤m.length)=true:=by simp;omega
     have e2:decide (m.length≤4)=true:=by simp;omega
     have e3:decide (1≤m[0].length)=true:=by simp;omega
     have e4:decide (m[0].length≤4)=true:=by simp;omega
     rw [e1,e2,e3,e4];simp only [Bool.true_and]
    rw [e];exact PE b off cap' rs.length m rs a0 m[0].length cap0 w rfl h1 h4 hm hR' hc zo zo hF
end Go.Proofs.matrix
namespace Go.Proofs.matrix
open Go Go.RowKit Go.SW Go.Num Go.Mem Go.Proofs Go.Dec
theorem fF (m:Value) (n:Nat) (b:Bool) (w:World) (h:aZ w m n) :
  Calls Tryz.prog 135 #[m,ak b] w (fun e w'=>∃ v,e= aj v∧Bw w w'∧dS w' v (iR n b)):=ai4
theorem iT (z:Int) (hz:(Lib.decDigits z.natAbs).length≤600) (w:World) :
  Calls Tryz.prog 199 #[fO z] w (fun e w'=>∃ v,e= aj v∧Bw w w'∧dS w' v z):=aB0
theorem oD (v u:Value) (z:Int) (n:Nat) (w:World) (h:dS w v z) (hu:aZ w u n) (hz:sz 1000000000 z.natAbs≤549755813888) (hn:sz 1000000000 n≤549755813888) :
  Calls Tryz.prog 201 #[v,u] w (fun e w'=>∃ v,e= aj v∧Bw w w'∧dS w' v (z*n)):=aA9
theorem Li (pa pb:Option Addr) (l m ca cb:Nat) (z y:Int) (b:Bool) (w:World) (h:aZ w (ah pa l ca) z.natAbs) (h2:aZ w (ah pb m cb) y.natAbs) (hz:decide (z<0)=b) (hy:decide (y<0)=b) (kz:sz 1000000000 z.natAbs≤549755813888) (ky:sz 1000000000 y.natAbs≤549755813888) :
  Calls Tryz.prog 210 #[aB #[ah pa l ca,ak b],aB #[ah pb m cb,ak b]] w (fun e w'=>∃ v,e= aj v∧Bw w w'∧dS w' v (z+y)):=aA8
theorem Lj (pa pb:Option Addr) (l m ca cb:Nat) (z y:Int) (b:Bool) (w:World) (h:aZ w (ah pa l ca) z.natAbs) (h2:aZ w (ah pb m cb) y.natAbs) (hz:decide (z<0)=b) (hy:decide (y<0)= !b) (kz:sz 1000000000 z.natAbs≤549755813888) (ky:sz 1000000000 y.natAbs≤549755813888) :
  Calls Tryz.prog 210 #[aB #[ah pa l ca,ak b],aB #[ah pb m cb,ak !b]] w (fun e w'=>∃ v,e= aj v∧Bw w w'∧dS w' v (z+y)):=aA7
theorem yD (v u:Value) (z y:Int) (w:World) (h:dS w v z) (h2:dS w u y) (kz:sz 1000000000 z.natAbs≤549755813888) (ky:sz 1000000000 y.natAbs≤549755813888) :
  Calls Tryz.prog 210 #[v,u] w (fun e w'=>∃ v,e= aj v∧Bw w w'∧dS w' v (z+y)):=aA6
theorem CG (v:Value) (z:Int) (w:World) (h:dS w v z) (kz:sz 1000000000 z.natAbs≤1099511627776) (ht:ko.Pow w) :
  Calls Tryz.prog 204 #[v] w (fun e w'=>e= aj (fO z)∧Bw w w'):=aA5
theorem qK (v u:Value) (z y:Int) (w:World) (h:dS w v z) (h2:dS w u y) (kz:sz 1000000000 z.natAbs≤549755813888) (ky:sz 1000000000 y.natAbs≤549755813888) :
  Calls Tryz.prog 208 #[v,u] w (fun e w'=>∃ v,e= aj v∧Bw w w'∧dS w' v (z*y)):=aA4
end Go.Proofs.matrix
namespace Go.Proofs.matrix
open Go Go.RowKit Go.SW Go.Num Go.Mem Go.Proofs Go.Dec Go.fG
theorem L9 (x y:Value) (a b:Nat) (w:World) (hx:aZ w x a) (hy:aZ w y b) (ha:0<a) (ka:sz 1000000000 a≤549755813888) (kb:sz 1000000000 b≤549755813888) :
  Calls Tryz.prog 198 #[x,y] w (fun e w'=>∃ v,e= aj v∧Bw w w'∧aZ w' v (a*(b / a.gcd b))):=by
 obtain ⟨IE,lH,I7,rfl⟩:=hx.slice;have H:=zh hx;clear hx;obtain ⟨Ya,lG,Yi,rfl⟩:=hy.slice;have G:=zh hy;clear hy;have hg:0<a.gcd b:=Nat.gcd_pos_of_pos_left _ ha;have kc:= @jC b (a.gcd b);obtain ⟨g,Eg⟩:∃ y:Nat,Hid (a.gcd b=y):=⟨_,zh rfl⟩;rw [Eg.out] at hg kc ⊢;obtain ⟨c,Ec⟩:∃ y:Nat,Hid (b / g=y):=⟨_,zh rfl⟩;rw [Ec.out] at kc ⊢;obtain ⟨d,Ed⟩:∃ y:Nat,Hid (a*c=y):=⟨_,zh rfl⟩;rw [Ed.out];have HG:=zh hg;have KC:=zh (au kc kb);have KA:=zh ka;have KB:=zh kb;clear hg ha kc ka kb;go_enter Tryz.func198,Tryz.ntmps198
 go_wp2_with fail
 refine ((pR _ _ a b _ aR aR KA.out KB.out).mono (by rw [Eg.out];exact fun _ _ h=>h)).mono ?_;rintro e v1 ⟨v,rfl,hc1,hv⟩;obtain ⟨Vp,lHg,Xo,rfl⟩:=hv.slice;have Hg:=zh hv;clear hv;replace H:=zh (aZ.carry H.out aR hc1);replace G:=zh (aZ.carry G.out aR hc1);go_wp2_with fail
 refine ((eZ _ _ b g _ aR aR HG.out KB.out).mono (by rw [Ec.out];exact fun _ _ h=>h)).mono ?_;rintro e v2 ⟨v,vr,rfl,hc2,hv,kR⟩;obtain ⟨aE4,lHc,aL4,rfl⟩:=hv.slice;have Hc:=zh hv;clear hv;obtain ⟨aE3,aU3,aL3,rfl⟩:=kR.slice;have Hcr:=zh kR;clear kR;replace H:=zh (aZ.later H.out hc2);replace G:=zh (aZ.later G.out hc2);replace Hg:=zh (aZ.later Hg.out hc2);go_wp2_with fail
 refine ((jB _ _ a c _ aR aR (au KA.out zo) (au KC.out zo)).mono (by rw [Ed.out];exact fun _ _ h=>h)).mono ?_;rintro e v3 ⟨v,rfl,hc3,hv⟩;obtain ⟨aR9,lHd,aY2,rfl⟩:=hv.slice;have Hd:=zh hv;clear hv;replace H:=zh (aZ.later H.out hc3);go_wp2_with fail
 go_ret
 exact ⟨_,rfl,aI,Hd.out⟩
theorem kV (x y:Value) (n d:Int) (w:World) (hx:dS w x n) (hy:dS w y d) (hd:d≠0) (kn:sz 1000000000 n.natAbs≤549755813888) (kd:sz 1000000000 d.natAbs≤549755813888) (ht:ko.Pow w) :
  Calls Tryz.prog 133 #[x,y] w (fun e w'=>e= aj (Fr.res (wr ((n:Rat) / (d:Rat))))∧Bw w w'):=by
 obtain ⟨IE,lH,I7,rfl,H⟩:=hx;replace H:=zh H;obtain ⟨Ya,lG,Yi,rfl,G⟩:=hy;replace G:=zh G;have hdp:0<d.natAbs:=by omega
 rw [← QU n d hd];have hp:=wu (iR n.natAbs (!(decide (n<0) == decide (d<0)))) hdp;rw [jD] at hp;have hg:0<n.natAbs.gcd d.natAbs:=Nat.gcd_pos_of_pos_right _ hdp;have kt:= @jC n.natAbs (n.natAbs.gcd d.natAbs);have kb:= @jC d.natAbs (n.natAbs.gcd d.natAbs);obtain ⟨q,Eq⟩:∃ y:Rat,Hid (mkRat (iR n.natAbs (Bool.not (decide (n<0) == decide (d<0)))) d.natAbs=y):=⟨_,zh rfl⟩;rw [show mkRat (iR n.natAbs (!(decide (n<0) == decide (d<0)))) d.natAbs=q from Eq.out] at hp ⊢;obtain ⟨g,Eg⟩:∃ y:Nat,Hid (n.natAbs.gcd d.natAbs=y):=⟨_,zh rfl⟩;rw [Eg.out] at hg kt kb hp;obtain ⟨t,Et⟩:∃ y:Nat,Hid (n.natAbs / g=y):=⟨_,zh rfl⟩;rw [Et.out] at kt hp;obtain ⟨b,Eb⟩:∃ y:Nat,Hid (d.natAbs / g=y):=⟨_,zh rfl⟩;rw [Eb.out] at kb hp;have Wq:q.num.natAbs=t:=by rw [hp.1,jD]
 have hden:q.den=b:=hp.2
 have ZJ:q.num=iR t (!(decide (n<0) == decide (d<0))):=by
  rw [hp.1];unfold iR
  by_cases h0:t=0
  ·simp [h0]
  ·have hn0:n.natAbs≠0:=fun e=>h0 (by rw [← Et.out,e];simp)
   by_cases h1:n<0<;>by_cases h2:d<0<;>simp [h1,h2]<;>omega
 have HG:=zh hg;have KT:=zh (au kt kn);have KB:=zh (au kb kd);have KN:=zh kn;have KD:=zh kd;have HT:=zh ht;clear hg kt kb kn kd ht hp hd hdp
 rcases aH 600 (Lib.decDigits t).length with h1|h1
 ·rw [vJ (by unfold jk;rw [Wq,E5 h1];rfl)];clear Wq hden ZJ;go_enter Tryz.func133,Tryz.ntmps133
  go_wp2_with fail
  refine ((pR _ _ n.natAbs d.natAbs _ aR aR KN.out KD.out).mono (by rw [Eg.out];exact fun _ _ h=>h)).mono ?_;rintro e v1 ⟨v,rfl,hc1,hv⟩;obtain ⟨Vp,lHg,Xo,rfl⟩:=hv.slice;have Hg:=zh hv;clear hv;replace H:=zh (aZ.carry H.out aR hc1);replace G:=zh (aZ.carry G.out aR hc1);have BR:=aA.later (aA.at2 _ _ _ _ _) hc1;have dL:=BR.cell;have dK:=BR.free;have iQ:=BR.lt;have B1:=aA.later (aA.alloc (aA.qW _ _ _ _) _) hc1;have cB1:=B1.cell;have ru:=B1.free;have lB1:=B1.lt;have B0:=aA.later (aA.alloc (aA.alloc (aA.new _ _ _) _) _) hc1;have cB0:=B0.cell;have kJ:=B0.free;have lB0:=B0.lt;go_wp2_with fail
  refine ((eZ _ _ n.natAbs g _ aR aR HG.out KN.out).mono (by rw [Et.out];exact fun _ _ h=>h)).mono ?_;rintro e v2 ⟨v,vr,rfl,hc2,hv,kR⟩;obtain ⟨ao9,lHt,ax9,rfl⟩:=hv.slice;have Ht:=zh hv;clear hv;obtain ⟨af0,aF3,ag8,rfl⟩:=kR.slice;have Htr:=zh kR;clear kR;replace H:=zh (aZ.later H.out hc2);replace G:=zh (aZ.later G.out hc2);replace Hg:=zh (aZ.later Hg.out hc2);replace BR:=aA.later (BR) hc2;replace dL:=BR.cell;replace dK:=BR.free;replace iQ:=BR.lt;replace B1:=aA.later (B1) hc2;replace cB1:=B1.cell;replace ru:=B1.free;replace lB1:=B1.lt;replace B0:=aA.later (B0) hc2;replace cB0:=B0.cell;replace kJ:=B0.free;replace lB0:=B0.lt;go_wp2_with fail
  refine ((eZ _ _ d.natAbs g _ aR aR HG.out KD.out).mono (by rw [Eb.out];exact fun _ _ h=>h)).mono ?_;rintro e v3 ⟨v,vr,rfl,hc3,hv,kR⟩;obtain ⟨Y5,lHb,ab4,rfl⟩:=hv.slice;have Hb:=zh hv;clear hv;obtain ⟨Vq,aq9,Xp,rfl⟩:=kR.slice;have Hbr:=zh kR;clear kR;replace Ht:=zh (aZ.later Ht.out hc3);replace BR:=aA.later (BR) hc3;replace dL:=BR.cell;replace dK:=BR.free;replace iQ:=BR.lt;replace B1:=aA.later (B1) hc3;replace cB1:=B1.cell;replace ru:=B1.free;replace lB1:=B1.lt;replace B0:=aA.later (B0) hc3;replace cB0:=B0.cell;replace kJ:=B0.free;replace lB0:=B0.lt;go_wp2_with fail
  refine (iW _ t _ aR (au KT.out zo) (HT.out.later aI)).mono ?_;rintro e v4 ⟨rfl,hc4⟩;replace BR:=aA.later (BR) hc4;replace dL:=BR.cell;replace dK:=BR.free;replace iQ:=BR.lt;go_wp2_with fail
  refine bX rfl rfl bq Tryz.underlying38 rfl zk ?_;exact ⟨rfl,aI⟩
 ·rcases aH 600 (Lib.decDigits b).length with h2|h2
  ·rw [vJ (by unfold jk;rw [hden,E5 h2,Bool.and_false])];clear Wq hden ZJ;go_enter Tryz.func133,Tryz.ntmps133
   go_wp2_with fail
   refine ((pR _ _ n.natAbs d.natAbs _ aR aR KN.out KD.out).mono (by rw [Eg.out];exact fun _ _ h=>h)).mono ?_;rintro e v1 ⟨v,rfl,hc1,hv⟩;obtain ⟨Vp,lHg,Xo,rfl⟩:=hv.slice;have Hg:=zh hv;clear hv;replace H:=zh (aZ.carry H.out aR hc1);replace G:=zh (aZ.carry G.out aR hc1);have BR:=aA.later (aA.at2 _ _ _ _ _) hc1;have dL:=BR.cell;have dK:=BR.free;have iQ:=BR.lt;have B1:=aA.later (aA.alloc (aA.qW _ _ _ _) _) hc1;have cB1:=B1.cell;have ru:=B1.free;have lB1:=B1.lt;have B0:=aA.later (aA.alloc (aA.alloc (aA.new _ _ _) _) _) hc1;have cB0:=B0.cell;have kJ:=B0.free;have lB0:=B0.lt;go_wp2_with fail
   refine ((eZ _ _ n.natAbs g _ aR aR HG.out KN.out).mono (by rw [Et.out];exact fun _ _ h=>h)).mono ?_;rintro e v2 ⟨v,vr,rfl,hc2,hv,kR⟩;obtain ⟨ao9,lHt,ax9,rfl⟩:=hv.slice;have Ht:=zh hv;clear hv;obtain ⟨af0,aF3,ag8,rfl⟩:=kR.slice;have Htr:=zh kR;clear kR;replace H:=zh (aZ.later H.out hc2);replace G:=zh (aZ.later G.out hc2);replace Hg:=zh (aZ.later Hg.out hc2);replace BR:=aA.later (BR) hc2;replace dL:=BR.cell;replace dK:=BR.free;replace iQ:=BR.lt;replace B1:=aA.later (B1) hc2;replace cB1:=B1.cell;replace ru:=B1.free;replace lB1:=B1.lt;replace B0:=aA.later (B0) hc2;replace cB0:=B0.cell;replace kJ:=B0.free;replace lB0:=B0.lt;go_wp2_with fail
   refine ((eZ _ _ d.natAbs g _ aR aR HG.out KD.out).mono (by rw [Eb.out];exact fun _ _ h=>h)).mono ?_;rintro e v3 ⟨v,vr,rfl,hc3,hv,kR⟩;obtain ⟨Y5,lHb,ab4,rfl⟩:=hv.slice;have Hb:=zh hv;clear hv;obtain ⟨Vq,aq9,Xp,rfl⟩:=kR.slice;have Hbr:=zh kR;clear kR;replace Ht:=zh (aZ.later Ht.out hc3);replace BR:=aA.later (BR) hc3;replace dL:=BR.cell;replace dK:=BR.free;replace iQ:=BR.lt;replace B1:=aA.later (B1) hc3;replace cB1:=B1.cell;replace ru:=B1.free;replace lB1:=B1.lt;replace B0:=aA.later (B0) hc3;replace cB0:=B0.cell;replace kJ:=B0.free;replace lB0:=B0.lt;go_wp2_with fail
   refine (iW _ t _ aR (au KT.out zo) (HT.out.later aI)).mono ?_;rintro e v4 ⟨rfl,hc4⟩;replace Ht:=zh (aZ.later Ht.out hc4);replace Hb:=zh (aZ.later Hb.out hc4);replace BR:=aA.later (BR) hc4;replace dL:=BR.cell;replace dK:=BR.free;replace iQ:=BR.lt;go_wp2_with fail
   refine (iW _ b _ aR (au KB.out zo) (HT.out.later aI)).mono ?_;rintro e v5 ⟨rfl,nO⟩;replace BR:=aA.later (BR) nO;replace dL:=BR.cell;replace dK:=BR.free;replace iQ:=BR.lt;go_wp2_with fail
   refine bX rfl rfl bq Tryz.underlying38 rfl zk ?_;exact ⟨rfl,aI⟩
  ·rw [Uk (by unfold jk;rw [Wq,hden,fJ.2 h1,fJ.2 h2];rfl),ZJ,hden];obtain ⟨s,Es⟩:∃ y:Int,Hid (iR t (Bool.not (decide (n<0) == decide (d<0)))=y):=⟨_,zh rfl⟩;rw [show iR t (!(decide (n<0) == decide (d<0)))=s from Es.out];have KS:Hid (sz 1000000000 s.natAbs≤549755813888):=by unfold Hid;rw [← Es.out,jD];exact KT.out
   clear Wq hden ZJ;go_enter Tryz.func133,Tryz.ntmps133
   go_wp2_with fail
   refine ((pR _ _ n.natAbs d.natAbs _ aR aR KN.out KD.out).mono (by rw [Eg.out];exact fun _ _ h=>h)).mono ?_;rintro e v1 ⟨v,rfl,hc1,hv⟩;obtain ⟨Vp,lHg,Xo,rfl⟩:=hv.slice;have Hg:=zh hv;clear hv;replace H:=zh (aZ.carry H.out aR hc1);replace G:=zh (aZ.carry G.out aR hc1);have BR:=aA.later (aA.at2 _ _ _ _ _) hc1;have dL:=BR.cell;have dK:=BR.free;have iQ:=BR.lt;have B1:=aA.later (aA.alloc (aA.qW _ _ _ _) _) hc1;have cB1:=B1.cell;have ru:=B1.free;have lB1:=B1.lt;have B0:=aA.later (aA.alloc (aA.alloc (aA.new _ _ _) _) _) hc1;have cB0:=B0.cell;have kJ:=B0.free;have lB0:=B0.lt;go_wp2_with fail
   refine ((eZ _ _ n.natAbs g _ aR aR HG.out KN.out).mono (by rw [Et.out];exact fun _ _ h=>h)).mono ?_;rintro e v2 ⟨v,vr,rfl,hc2,hv,kR⟩;obtain ⟨ao9,lHt,ax9,rfl⟩:=hv.slice;have Ht:=zh hv;clear hv;obtain ⟨af0,aF3,ag8,rfl⟩:=kR.slice;have Htr:=zh kR;clear kR;replace H:=zh (aZ.later H.out hc2);replace G:=zh (aZ.later G.out hc2);replace Hg:=zh (aZ.later Hg.out hc2);replace BR:=aA.later (BR) hc2;replace dL:=BR.cell;replace dK:=BR.free;replace iQ:=BR.lt;replace B1:=aA.later (B1) hc2;replace cB1:=B1.cell;replace ru:=B1.free;replace lB1:=B1.lt;replace B0:=aA.later (B0) hc2;replace cB0:=B0.cell;replace kJ:=B0.free;replace lB0:=B0.lt;go_wp2_with fail
   refine ((eZ _ _ d.natAbs g _ aR aR HG.out KD.out).mono (by rw [Eb.out];exact fun _ _ h=>h)).mono ?_;rintro e v3 ⟨v,vr,rfl,hc3,hv,kR⟩;obtain ⟨Y5,lHb,ab4,rfl⟩:=hv.slice;have Hb:=zh hv;clear hv;obtain ⟨Vq,aq9,Xp,rfl⟩:=kR.slice;have Hbr:=zh kR;clear kR;replace Ht:=zh (aZ.later Ht.out hc3);replace BR:=aA.later (BR) hc3;replace dL:=BR.cell;replace dK:=BR.free;replace iQ:=BR.lt;replace B1:=aA.later (B1) hc3;replace cB1:=B1.cell;replace ru:=B1.free;replace lB1:=B1.lt;replace B0:=aA.later (B0) hc3;replace cB0:=B0.cell;replace kJ:=B0.free;replace lB0:=B0.lt;go_wp2_with fail
   refine (iW _ t _ aR (au KT.out zo) (HT.out.later aI)).mono ?_;rintro e v4 ⟨rfl,hc4⟩;replace Ht:=zh (aZ.later Ht.out hc4);replace Hb:=zh (aZ.later Hb.out hc4);replace BR:=aA.later (BR) hc4;replace dL:=BR.cell;replace dK:=BR.free;replace iQ:=BR.lt;replace B1:=aA.later (B1) hc4;replace cB1:=B1.cell;replace ru:=B1.free;replace lB1:=B1.lt;replace B0:=aA.later (B0) hc4;replace cB0:=B0.cell;replace kJ:=B0.free;replace lB0:=B0.lt;go_wp2_with fail
   refine (iW _ b _ aR (au KB.out zo) (HT.out.later aI)).mono ?_;rintro e v5 ⟨rfl,nO⟩;replace Ht:=zh (aZ.later Ht.out nO);replace Hb:=zh (aZ.later Hb.out nO);replace BR:=aA.later (BR) nO;replace dL:=BR.cell;replace dK:=BR.free;replace iQ:=BR.lt;replace B1:=aA.later (B1) nO;replace cB1:=B1.cell;replace ru:=B1.free;replace lB1:=B1.lt;replace B0:=aA.later (B0) nO;replace cB0:=B0.cell;replace kJ:=B0.free;replace lB0:=B0.lt;go_wp2_with fail
   refine ((fF _ t _ _ aR).mono (by rw [show iR t (!(decide (n<0) == decide (d<0)))=s from Es.out];exact fun _ _ h=>h)).mono ?_;rintro e v6 ⟨v,rfl,hc6,hv⟩;obtain ⟨Co,Ua,Cx,rfl,Hs⟩:=hv;replace Hs:=zh Hs;replace Hb:=zh (aZ.later Hb.out hc6);replace BR:=aA.later (BR) hc6;replace dL:=BR.cell;replace dK:=BR.free;replace iQ:=BR.lt;go_wp2_with fail
   refine ((CG _ s _ (dS.dV aR) (au KS.out zo) (HT.out.later aI)).mono (fun _ _ h=>by unfold fO at h;exact h)).mono ?_;rintro e v7 ⟨rfl,GI⟩;replace Hb:=zh (aZ.later Hb.out GI);replace BR:=aA.later (BR) GI;replace dL:=BR.cell;replace dK:=BR.free;replace iQ:=BR.lt;go_wp2_with fail
   refine (oG _ b _ aR (au KB.out zo) (HT.out.later aI)).mono ?_;rintro e v8 ⟨rfl,hc8⟩;replace BR:=aA.later (BR) hc8;replace dL:=BR.cell;replace dK:=BR.free;replace iQ:=BR.lt;go_wp2_with fail
   refine bX rfl rfl bq Tryz.underlying38 rfl zk ?_;exact ⟨rfl,aI⟩
theorem wE:(Tryz.prog.info? 206).map (fun i=>(i.zero,i.size,i.bytes))=some (some (.agg #[ah none 0 0,ak false]),2,32):=by kernel_rfl
theorem Tj (pa:Option Addr) (l ca:Nat) (b:Bool) (w:World):(Instr.field 206 (aB #[ah pa l ca,ak b]) 0).run Tryz.prog w= .ok (ah pa l ca) w:=by kernel_rfl
def Gx (w:World) (qs:List Rat) (e:Ending) (w':World):Prop:=∃ vt vb,e= aj (aD #[vt,vb])∧Bw w w'∧jh w' vt (qs.map (nE (gB qs)))∧aZ w' vb (gB qs)
theorem I6 (v:Value) (qs:List Rat) (T:TypeId) (w:World) (h:vC w T v (qs.map Fr.of)) (hq:∀ q∈qs,jk q=true) (hl:qs.length≤1000) :
  Calls Tryz.prog 132 #[v] w (Gx w qs):=by
 obtain ⟨i0,hi,hz0,hz1,hz2⟩:=info_parts wE;obtain ⟨a,cap,rfl,hc1,hc2,hread⟩:=h.read;have hln:(qs.map Fr.of).length=qs.length:=List.length_map _
 have Wn:∀ k (h:k<qs.length),∃ b off,a=some ⟨b,off,none⟩∧b<w.heap.size∧w.cell? ⟨b,off+k*2,none⟩=some (.string ⟨(Lib.itoa qs[k].num).toArray⟩)∧w.cell? ⟨b,off+k*2+1,none⟩=some (.string ⟨(Lib.itoa (qs[k].den:Int)).toArray⟩):=fun k hk=>by
  obtain ⟨b,off,e1,e2,e3,e4⟩:=hread k zo;simp only [List.getElem_map] at e3 e4;exact ⟨b,off,e1,e2,e3,e4⟩
 rw [hln] at hc1 ⊢;have HRD:=zh Wn
 have hlen:∀ k (h:k<qs.length),(Lib.decDigits qs[k].num.natAbs).length≤600∧(Lib.decDigits ((qs[k].den:Nat):Int).natAbs).length≤600:=fun k h=>by
  have hq1:=hq _ (dx h);unfold jk at hq1;rw [aF,fJ,fJ] at hq1;exact ⟨hq1.1,(Int.natAbs_natCast qs[k].den).symm ▸ hq1.2⟩
 have HLEN:=zh hlen
 have HSZ:Hid (∀ k,k≤qs.length→sz 1000000000 (gB (qs.take k))≤549755813888):=zh fun k hk=>by
  have:=Dl (qs.take k) (fun q h=>hq q (List.mem_of_mem_take h));rw [List.length_take] at this;omega
 have aP0:Hid (∀ k,0<gB (qs.take k)):=zh fun k=>(oI _).1
 have aA1:Hid (∀ k (h:k<qs.length),sz 1000000000 qs[k].den≤549755813888∧sz 1000000000 qs[k].num.natAbs≤549755813888):=zh fun k h=>by
  have:=lg (hq _ (dx h));exact ⟨au this.2 zo,au this.1 zo⟩
 have HDP:Hid (∀ k (h:k<qs.length),0<qs[k].den):=zh fun k h=>qs[k].den_pos;clear hread Wn hlen hq h hln;have hfd:=Tj;go_enter Tryz.func132,Tryz.ntmps132
 go_wp2_with fail
 go_loopw [13,3] (fun iv bv wr=>∃ k:Nat,iv= Z I (k:Int)∧k≤qs.length∧Hid (aZ wr bv (gB (qs.take k)))∧Bw w wr) (fun iv _ _=>qs.length - (intOf iv).toNat)
 case atStart=>exact ⟨0,rfl,by omega,zh (show aZ _ _ 1 from aZ.lit (d:=1) zo zo),aI⟩
 case round =>
  obtain ⟨k,rfl,hk,HB,hb⟩:=hrel;have hbm:=HB.out;obtain ⟨pb,lb,cb,rfl⟩:=hbm.slice;clear hbm
  rcases aH k qs.length with hlt|hge
  ·obtain ⟨b,off,rfl,hbl,hx1,hx2⟩:=HRD.out k hlt;have cx1:=(hb.cell (p:=⟨b,off+k*2,none⟩) hbl).trans hx1;have cx2:=(hb.cell (p:=⟨b,off+k*2+1,none⟩) hbl).trans hx2;have HL2:=zh (HLEN.out k hlt).2;have HS:=zh (HSZ.out k zo);have HP:=zh (aP0.out k);have HD:=zh (aA1.out k hlt).1;have HT:=zh (Tz hlt);clear hx1 hx2;generalize gB (qs.take k)=ck at *;generalize qs[k]=q at *;go_wp2_with fail
   refine (iT (q.den:Int) HL2.out _).mono ?_;rintro e v1 ⟨v,rfl,hc1,hv⟩;obtain ⟨SB,lHN,TD,rfl,HN⟩:=hv;replace HN:=zh HN;rw [Int.natAbs_natCast] at HN;replace HB:=zh (aZ.carry HB.out aR hc1);go_wp2_with fail
   refine ((L9 _ _ ck q.den _ aR aR HP.out HS.out HD.out).mono (by rw [← HT.out];exact fun _ _ h=>h)).mono ?_;rintro e v2 ⟨v,rfl,hc2,hv⟩;obtain ⟨SC,lHM,TF,rfl⟩:=hv.slice;have HM:=zh hv;clear hv;go_wp2_with fail
   go_roundw
   case rel=>exact ⟨k+1,by go_num,by omega,HM,Bt hb aI⟩
   case measure=>exact zM
  ·obtain rfl:k=qs.length:=by omega
   rw [eX] at HB;have NM:=zh (oI qs).2;have HP:=zh (aP0.out qs.length);have HS:=zh (HSZ.out qs.length (aC _));rw [eX] at HP HS;have HX:Hid (∀ (k:Nat) (h:k<qs.length),nE (gB qs) qs[k]=(qs.map (nE (gB qs))).getD k 0):=zh fun k h=>by simp [h]
   have HXL:Hid ((qs.map (nE (gB qs))).length=qs.length):=zh (List.length_map _);obtain ⟨xs,EXS⟩:∃ y:List Int,Hid (qs.map (nE (gB qs))=y):=⟨_,zh rfl⟩;obtain ⟨D,HDD⟩:∃ y:Nat,Hid (gB qs=y):=⟨_,zh rfl⟩;rw [EXS.out] at HX HXL;rw [HDD.out] at HX HB NM HP HS;go_wp2_with (at_make;refine wpList_make_full _ rfl _ _ 200 rfl w.heap.size 206 i0 (aB #[ah none 0 0,ak false]) 2 Tryz.underlying200 hi hz0 hz1 _ _ _ _ qs.length rfl rfl zo zo (by rw [hz2];omega) (by unfold maxLen;omega) hb.size ?_)
   intro w1 hown hgrow;have hbg:Bw wr w1:=(Below.refl _ _).grown hgrow (aC _) (fun k hk=>by cases hk);have HF:=zh (Fill.start (ok:=sO (fun i=>xs.getD i 0)) hown);replace HB:=zh (HB.out.later hbg);have hb1:Bw w w1:=Bt hb hbg;have hgb:w.heap.size≤wr.heap.size:=hb.size;generalize wr.heap.size=G at *;clear hown hgrow hbg hb;go_wp2_with fail
   go_loopw [29] (fun iv wr2=>∃ k:Nat,iv= Z I (k:Int)∧k≤qs.length∧Hid (Fill wr2 G 206 qs.length k (sO (fun i=>xs.getD i 0)))∧Hid (aZ wr2 (ah pb lb cb) D)∧Bw w wr2) (fun iv _=>qs.length - (intOf iv).toNat)
   case atStart=>exact ⟨0,rfl,by omega,HF,HB,hb1⟩
   case round =>
    obtain ⟨k,rfl,hk,HF,HB,hb⟩:=hrel
    rcases aH k qs.length with hlt|hge
    ·obtain ⟨b,off,rfl,hbl,hx1,hx2⟩:=HRD.out k hlt;have cx1:=(hb.cell (p:=⟨b,off+k*2,none⟩) hbl).trans hx1;have cx2:=(hb.cell (p:=⟨b,off+k*2+1,none⟩) hbl).trans hx2;have Yo:=zh (HLEN.out k hlt).1;have HL2:=zh (HLEN.out k hlt).2;have HD1:=zh (aA1.out k hlt).1;have HD2:=zh (aA1.out k hlt).2;have HQ:=zh (HDP.out k hlt);have HX2:=zh (HX.out k hlt);have lG:=HF.out.lt;clear hx1 hx2;generalize qs[k]=q at *;have hks:= @jC D q.den;have HKS:=zh (au hks HS.out);clear hks;obtain ⟨c,Ec⟩:∃ y:Nat,Hid (D / q.den=y):=⟨_,zh rfl⟩;have Od:Hid (q.num*(c:Int)=xs.getD k 0):=zh (by rw [← HX2.out,← Ec.out];rfl);rw [Ec.out] at HKS;go_wp2_with fail
     refine (iT (q.den:Int) HL2.out _).mono ?_;rintro e v1 ⟨v,rfl,hc1,hv⟩;obtain ⟨SB,lHN,TD,rfl,HN⟩:=hv;replace HN:=zh HN;rw [Int.natAbs_natCast] at HN;replace HB:=zh (aZ.carry HB.out aR hc1);have hbx:=aA.later (aA.new _ _ _) hc1;have cbx:=hbx.cell;have lbx:=hbx.lt;replace HF:=zh (HF.out.later (Bt aI hc1) (sO.later (Bt aI hc1)));go_wp2_with fail
     refine ((eZ _ _ D q.den _ aR aR HQ.out HS.out).mono (by rw [Ec.out];exact fun _ _ h=>h)).mono ?_;rintro e v2 ⟨v,vr,rfl,hc2,hv,kR⟩;obtain ⟨aS1,lHC,aY4,rfl⟩:=hv.slice;have HC:=zh hv;clear hv;obtain ⟨bc6,bh9,be1,rfl⟩:=kR.slice;have HCr:=zh kR;clear kR;clear HCr;replace HB:=zh (HB.out.later hc2);replace hbx:=hbx.later hc2;replace cbx:=hbx.cell;replace lbx:=hbx.lt;replace HF:=zh (HF.out.later hc2 (sO.later hc2));go_wp2_with fail
     refine (iT q.num Yo.out _).mono ?_;rintro e v3 ⟨v,rfl,hc3,hv⟩;obtain ⟨SC,lHM,TF,rfl,HM⟩:=hv;replace HM:=zh HM;replace HB:=zh (HB.out.later hc3);replace HC:=zh (HC.out.later hc3);replace HF:=zh (HF.out.later hc3 (sO.later hc3));go_wp2_with fail
     refine ((oD _ _ q.num c _ (dS.dV aR) aR HD2.out HKS.out).mono (by rw [Od.out];exact fun _ _ h=>h)).mono ?_;rintro e v4 ⟨v,rfl,hc4,hv⟩;obtain ⟨LV,lHV,Nh,rfl,HV⟩:=hv;replace HV:=zh HV;replace HB:=zh (HB.out.later hc4);replace HF:=zh (HF.out.later hc4 (sO.later hc4));obtain ⟨⟨y1,cy1⟩,⟨y2,cy2⟩,fy⟩:=HF.out.cells hlt;go_wp2_with fail
     have isG:=HF.out.GH;go_roundw
     case rel =>
      exact ⟨k+1,by go_num,by omega,zh (HF.out.step hlt (fun i x y h=>sO.Ba isG.setCell zd _ _ _ (sO.Ba isG zd _ _ _ h)) ⟨_,_,_,rfl,rfl,(HV.out.Ba isG zd).Ba isG.setCell zd⟩),
       zh ((HB.out.Ba isG zd).Ba isG.setCell zd),(by have hG:wr.heap.size≥0:=Nat.zero_le _;exact ((Bt (Bt (Bt (Bt (bL hb _) hc1) hc2) hc3) hc4).setCell hgb _).setCell hgb _)⟩
     case measure=>exact zM
    ·obtain rfl:k=qs.length:=by omega
     have hxl:=HXL.out
     have hfin:jh wr (ah (some ⟨G,0,none⟩) qs.length qs.length) xs:=by
      have:=HF.out;rw [← hxl] at this ⊢;exact jh.Db this zo
     have ba4:=zh hfin;clear hfin hxl;go_wp2_with fail
     go_ret2
     exact ⟨_,_,rfl,hb,by rw [EXS.out];exact ba4.out,by rw [HDD.out];exact HB.out⟩
def AJ (w:World) (z:Int) (e:Ending) (w':World):Prop:=∃ v,e= aj (aD #[v,Z I 0])∧Bw w w'∧dS w' v z
theorem aa4 (bx by':Nat) (vx vy:Value) (xs ys:List Int) (i:Nat) (w:World) (hx:jh w vx xs) (hy:jh w vy ys) (hbx:aA w bx #[vx] 200) (hby:aA w by' #[vy] 200)
  (h1:i<xs.length) (h2:i<ys.length) (k1:sz 1000000000 (xs.getD i 0).natAbs≤549755813888) (k2:sz 1000000000 (ys.getD i 0).natAbs≤549755813888) :
  Calls Tryz.prog 207 #[Z I (i:Int),ay (some ⟨bx,0,none⟩),ay (some ⟨by',0,none⟩)] w (AJ w (xs.getD i 0*ys.getD i 0)):=by
 obtain ⟨a,cap,rfl,hc1,hc2,hread⟩:=hx.read;obtain ⟨a',cap',rfl,hc1',hc2',J2⟩:=hy.read;obtain ⟨b,off,pa,n,ca,rfl,hbl,cx1,cx2,hm⟩:=hread i h1;obtain ⟨b',off',pa',n',Ob,rfl,bj0,cy1,cy2,hm'⟩:=J2 i h2;have H:=zh hm;have H':=zh hm';have cbx:=hbx.cell;have cby:=hby.cell;have lx:=hbx.lt;have ly:=hby.lt;generalize xs.getD i 0=x at *;generalize ys.getD i 0=u at *;have K1:=zh k1;have K2:=zh k2;obtain ⟨z,Ez⟩:∃ y:Int,Hid (x*u=y):=⟨_,zh rfl⟩;rw [Ez.out];clear hm hm' hread J2 hx hy k1 k2 hbx hby;go_enter Tryz.func207,Tryz.ntmps207
 go_wp2_with fail
 refine aO [(.read,0),(.pure,1),(.pure,2),(.read,3),(.read,4),(.pure,5),(.pure,6),(.read,7),(.ext,8),(.fin,9),(.fin,10)] zk zk zR zP ?_;refine zV ?_;refine aL rfl rfl (fun w1 hb1 J hJ=>?_);go_simp;have BR:=aA.later (aA.drew (aA.new _ _ _)) hb1;have dL:=BR.cell;have dK:=BR.free;have iQ:=BR.lt;refine ((qK _ _ x u _ (dS.dV aR) (dS.dV aR) K1.out K2.out).mono (by rw [Ez.out];exact fun _ _ h=>h)).mono ?_;rintro e v1 ⟨v,rfl,hc1,hv⟩;obtain ⟨LV,lHV,Nh,rfl,HV⟩:=hv;replace HV:=zh HV;replace BR:=aA.later (BR) hc1;replace dL:=BR.cell;replace dK:=BR.free;replace iQ:=BR.lt;refine hJ _ _ hc1 ?_;clear hJ J;refine cZ [_,_] rfl (fun w5 hb5=>?_);replace BR:=aA.later (BR) hb5;replace dL:=BR.cell;replace dK:=BR.free;replace iQ:=BR.lt;go_wp2_with fail
 refine bX rfl rfl bq Tryz.underlying206 rfl zk ?_;exact ⟨_,rfl,aI,dS.dV aR⟩
theorem aa3 (vx vy:Value) (x y:Int) (w:World) (hx:dS w vx x) (hy:dS w vy y) (k1:sz 1000000000 x.natAbs≤549755813888) (k2:sz 1000000000 y.natAbs≤549755813888) :
  Calls Tryz.prog 209 #[vx,vy] w (AJ w (x+y)):=by
 obtain ⟨IE,lH,I7,rfl,H⟩:=hx;replace H:=zh H;obtain ⟨Ya,lG,Yi,rfl,G⟩:=hy;replace G:=zh G;have K1:=zh k1;have K2:=zh k2;obtain ⟨z,Ez⟩:∃ z:Int,Hid (x+y=z):=⟨_,zh rfl⟩;rw [Ez.out];clear k1 k2;go_enter Tryz.func209,Tryz.ntmps209
 go_wp2_with fail
 refine ((yD _ _ x y _ (dS.dV aR) (dS.dV aR) K1.out K2.out).mono (by rw [Ez.out];exact fun _ _ h=>h)).mono ?_;rintro e v1 ⟨v,rfl,hc1,hv⟩;obtain ⟨LV,lHV,Nh,rfl,HV⟩:=hv;replace HV:=zh HV;have BR:=aA.later (aA.at2 _ _ _ _ _) hc1;have dL:=BR.cell;have dK:=BR.free;have iQ:=BR.lt;go_wp2_with fail
 refine bX rfl rfl bq Tryz.underlying206 rfl zk ?_;exact ⟨_,rfl,aI,dS.dV aR⟩
def uJ (f:Nat→Int):Nat→Int
 | 0=>0
 | k+1=>uJ f k+f k
theorem JF (f:Nat→Int) (K:Nat) (h:∀ j,sz 1000000000 (f j).natAbs≤K):∀ k,sz 1000000000 (uJ f k).natAbs≤K+k
 | 0=>by simp [uJ,xu]
 | k+1=>by
  have h1:=JF f K h k;have h2:=h k;have h3:=A8 (uJ f k) (f k);simp only [uJ];omega
def Ay (w:World) (z:Int) (e:Ending) (w':World):Prop:=∃ v,e= aj (aD #[v,Z I 0])∧Bw w w'∧dS w' v z
theorem YL (bx by':Nat) (vx vy:Value) (xs ys:List Int) (n:Nat) (w:World) (hx:jh w vx xs) (hy:jh w vy ys) (hbx:aA w bx #[vx] 200) (hby:aA w by' #[vy] 200)
  (h1:xs.length=n) (h2:ys.length=n) (h0:0<n) (hn:n≤1000) (k1:∀ i,sz 1000000000 (xs.getD i 0).natAbs≤1000000) (k2:∀ i,sz 1000000000 (ys.getD i 0).natAbs≤1000000) :
  Calls Tryz.prog 206 #[Z I (n:Int),.func (.func 207) #[] #[ay (some ⟨bx,0,none⟩),ay (some ⟨by',0,none⟩)],.func (.func 209) #[] #[]] w (Ay w (uJ (fun i=>xs.getD i 0*ys.getD i 0) n)):=by
 have HD:Hid (∀ i,i<n→∀ w',Bw w w'→Calls Tryz.prog 207 #[Z I (i:Int),ay (some ⟨bx,0,none⟩),ay (some ⟨by',0,none⟩)] w' (AJ w' (xs.getD i 0*ys.getD i 0))) :=
  zh fun i hi w' hb=>aa4 bx by' vx vy xs ys i w' (hx.later hb) (hy.later hb) (hbx.later hb) (hby.later hb) zo zo (au (k1 i) zo) (au (k2 i) zo)
 obtain ⟨f,hf⟩:∃ f:Nat→Int,f=fun i=>xs.getD i 0*ys.getD i 0:=⟨_,rfl⟩
 have hfz:∀ i,sz 1000000000 (f i).natAbs≤2000000:=fun i=>by
  rw [hf];have:=yC (xs.getD i 0) (ys.getD i 0);have:=k1 i;have:=k2 i;simp only;omega
 have HFZ:Hid (∀ i,sz 1000000000 (f i).natAbs≤549755813888):=zh fun i=>au (hfz i) zo
 have HPZ:Hid (∀ i,i≤n→sz 1000000000 (uJ f i).natAbs≤549755813888):=zh fun i hi=>by
  have:=JF f _ hfz i;omega
 have HD2:Hid (∀ i,i<n→∀ w',Bw w w'→Calls Tryz.prog 207 #[Z I (i:Int),ay (some ⟨bx,0,none⟩),ay (some ⟨by',0,none⟩)] w' (AJ w' (f i))):=by
  rw [hf];exact HD
 rw [← hf];clear hf hfz HD hx hy hbx hby h1 h2 k1 k2;have hP0:f 0=uJ f (0+1):=by simp [uJ]
 have NJ:=zh hP0;clear hP0;go_enter Tryz.func206,Tryz.ntmps206
 go_wp2_with fail
 refine (HD2.out 0 h0 _ aI).mono ?_;rintro e v1 ⟨v,rfl,hc1,hv⟩;obtain ⟨LV,lHV,Nh,rfl,HV⟩:=hv;replace HV:=zh HV;rw [NJ.out] at HV ⊢;have BR:=aA.later (aA.alloc (aA.new _ _ _) _) hc1;have dL:=BR.cell;have dK:=BR.free;have iQ:=BR.lt;go_wp2_with fail
 have hbt:=aA.new v1 #[ah LV lHV Nh,ak (decide (uJ f (0+1)<0))] 206;have hbr:=BR.alloc (.cells #[ah LV lHV Nh,ak (decide (uJ f (0+1)<0))] 206 (0,0));have hbw:Bw w v1:=Bt aI hc1;have hnd:=iQ;clear BR dL dK iQ;obtain ⟨B9,hB9⟩:∃ b,v1.heap.size=b:=⟨_,rfl⟩;rw [hB9] at hbt hnd ⊢;have HB9:=zh hB9;clear hB9
 go_loopw [11] (fun iv wr=>∃ (k:Nat) (pa:Option Addr) (l ca:Nat),iv= Z I (k:Int)∧1≤k∧k≤n∧Hid (aA wr B9 #[ah pa l ca,ak (decide (uJ f k<0))] 206)∧Hid (aZ wr (ah pa l ca) (uJ f k).natAbs)∧Hid (aA wr w.heap.size #[ah none 0 0,ak false] 206)∧Bw w wr) (fun iv _=>n - (intOf iv).toNat)
 case atStart=>exact ⟨1,_,_,_,rfl,by omega,by omega,zh hbt,zh aR,zh hbr,bL hbw _⟩
 case round =>
  obtain ⟨k,pa,l,ca,rfl,hk1,hk2,HT,HM,HR,hb⟩:=hrel;have ct:=HT.out.cell;have ft:=HT.out.free;have lt:=HT.out.lt;have cr:=HR.out.cell;have fr:=HR.out.free;have lr:=HR.out.lt;have hne:w.heap.size≠B9:=by omega
  have hne2:B9≠w.heap.size:=by omega
  rcases aH k n with hlt|hge
  ·have HF:=zh (HFZ.out k);have HP:=zh (HPZ.out k zo);have HS:Hid (uJ f k+f k=uJ f (k+1)):=zh rfl;go_wp2_with fail
   refine (HD2.out k hlt _ hb).mono ?_;rintro e v2 ⟨v,rfl,hc2,hv⟩;obtain ⟨bg2,lHX,bl7,rfl,HX⟩:=hv;replace HX:=zh HX;have ht2:=HT.out.later hc2;replace ct:=ht2.cell;replace ft:=ht2.free;replace lt:=ht2.lt;have hr2:=HR.out.later hc2;replace HM:=zh (HM.out.later hc2);go_wp2_with fail
   refine ((aa3 _ _ (uJ f k) (f k) _ (dS.dV aR) (dS.dV aR) HP.out HF.out).mono (by rw [HS.out];exact fun _ _ h=>h)).mono ?_;rintro e v3 ⟨v,rfl,hc3,hv⟩;obtain ⟨bg1,lHY,bl6,rfl,HY⟩:=hv;replace HY:=zh HY;have ht3:=(ht2.alloc _).later hc3;replace ct:=ht3.cell;replace ft:=ht3.free;replace lt:=ht3.lt;have hr3:=(hr2.alloc _).later hc3;have is3:=ht3.GH;clear ht2 hr2 cr fr lr;go_wp2_with fail
   go_roundw
   case rel =>
    refine ⟨k+1,_,_,_,by go_num,by omega,by omega,zh ((ht3.set 0 _).set 1 _),zh ((HY.out.Ba is3 zd).Ba is3.setCell zd),zh ((hr3.setOther _ hne).setOther _ hne),?_⟩;exact ((Bt (bL (Bt hb hc2) _) hc3).setCell (by simp;omega) _).setCell (by simp;omega) _
   case measure=>exact zM
  ·obtain rfl:k=n:=by omega
   have isr:=HR.out.GH;go_wp2_with fail
   refine bX rfl rfl ((HR.out.set 0 _).set 1 _) Tryz.underlying206 rfl zk ?_;exact ⟨_,rfl,(hb.setCell zi _).setCell zi _,dS.dV ((HM.out.Ba isr zd).Ba isr.setCell zd)⟩
def MN (xs ys:List Int):Int:=uJ (fun i=>xs.getD i 0*ys.getD i 0) xs.length
theorem av9 (vx vy:Value) (xs ys:List Int) (w:World) (hx:jh w vx xs) (hy:jh w vy ys)
  (h2:ys.length=xs.length) (h0:0<xs.length) (hn:xs.length≤1000) (k1:∀ i,sz 1000000000 (xs.getD i 0).natAbs≤1000000) (k2:∀ i,sz 1000000000 (ys.getD i 0).natAbs≤1000000) :
  Calls Tryz.prog 134 #[vx,vy] w (fun e w'=>∃ v,e= aj v∧Bw w w'∧dS w' v (MN xs ys)):=by
 obtain ⟨a,cap,rfl,hc1,hc2, -⟩:=hx.read;obtain ⟨a',cap',rfl,hc1',hc2', -⟩:=hy.read
 have HS:Hid (∀ bx by' w',Bw w w'→aA w' bx #[ah a xs.length cap] 200→aA w' by' #[ah a' ys.length cap'] 200→Calls Tryz.prog 206 #[Z I (xs.length:Int),.func (.func 207) #[] #[ay (some ⟨bx,0,none⟩),ay (some ⟨by',0,none⟩)],.func (.func 209) #[] #[]] w' (Ay w' (MN xs ys))) :=
  zh fun bx by' w' hb h3 h4=>YL bx by' _ _ xs ys xs.length w' (hx.later hb) (hy.later hb) h3 h4 rfl h2 h0 hn k1 k2
 obtain ⟨z,Ez⟩:∃ z:Int,Hid (MN xs ys=z):=⟨_,zh rfl⟩;rw [Ez.out] at HS ⊢;clear hx hy k1 k2 h0 h2;have Q0:∀ (fn:Fn) (first cap:Array Value) (w:World),(Instr.makeFunc fn first cap).run Tryz.prog w= .ok (.func fn first cap) w:=fun _ _ _ _=>rfl;go_enter Tryz.func134,Tryz.ntmps134
 go_wp2_with fail
 refine (HS.out _ _ _ aI bq bq).mono ?_;rintro e v1 ⟨v,rfl,hc1,hv⟩;obtain ⟨LV,lHV,Nh,rfl,HV⟩:=hv;replace HV:=zh HV;have BR:=aA.later (aA.at2 _ _ _ _ _) hc1;have dL:=BR.cell;have dK:=BR.free;have iQ:=BR.lt;go_wp2_with fail
 refine gG rfl rfl bq Tryz.underlying206 rfl zk ?_;exact ⟨_,rfl,aI,dS.dV aR⟩
end Go.Proofs.matrix
namespace Go.Proofs.matrix
open Go Go.RowKit Go.Shelf Go.SW Go.Num Go.Mem Go.Proofs Go.Dec Go.fG
attribute [local go_sem] Oper.semAt_some
theorem ZB:(Tryz.prog.info? 200).map (fun i=>(i.zero,i.size,i.bytes))=some (some (.slice none 0 0),1,24):=by kernel_rfl
theorem ZC:(Tryz.prog.info? 201).map (fun i=>(i.zero,i.size,i.bytes))=some (some (.slice none 0 0),1,24):=by kernel_rfl
abbrev RM:=List (List Rat)
def RM.fr (m:RM):List (List Fr):=m.map fun r=>r.map Fr.of
def xS (r:List Rat):List Int:=r.map (nE (gB r))
def aO0 (w:World) (v:Value) (m:RM):Prop:=∃ va na ca vb nb cb,v= aB #[ah va na ca,ah vb nb cb]∧Nu w (ah va na ca) (m.map xS)∧NH w (ah vb nb cb) (m.map gB)
theorem aA.keep {l:List TypeId} {w w':World} {b:Nat} {cs:Array Value} {T:TypeId} (h:aA w b cs T) (k:Keep l w w') (hT:T∉l):aA w' b cs T:=k _ _ _ hT h
theorem Ca {w w':World} {base k:Nat} {e:TypeId} {s:Nat} {v:Value} {xs:List Value} (hown:w.ownsRow base e s v k xs) (hg:w.grownBy w' v.ownBlock):KeepsOthers w w' :=
 ⟨hg.size,fun i o hi ho=>by
  rw [hg.block i (Array.getElem?_eq_some_iff.1 hi).1 ?_]
  ·exact hi
  ·intro he;obtain ⟨-, ⟨rfl, -⟩|⟨g,cap,cur,rfl, -, hgg, -⟩⟩:=hown
   ·cases he
   ·simp only [Value.ownBlock,Option.some.injEq] at he;subst he;rw [hi] at hgg;cases hgg
    cases ho⟩
theorem Jb {β γ:Type} {R:γ→β→Prop} (f:List Rat→γ) (m:RM) {n:Nat} (hn:n=m.length) {rs:List β} (h:vG (fun (i:Fin n) r=>R (f (m.getD i.1 [])) r) (upto n (aC _)) rs):vG R (m.map f) rs:=by
 obtain ⟨h1,h2⟩:=h;rw [kK] at h1;refine ⟨by rw [h1,hn,List.length_map],fun i hi hi'=>?_⟩;have hin:i<n:=by rw [List.length_map] at hi;omega
 have:=h2 i (by rw [kK];exact hin) hi';have e:((upto n (aC _))[i]'(by rw [kK];exact hin))=⟨i,hin⟩:=by simp [upto]
 rw [e] at this;have him:i<m.length:=by omega
 simpa [him] using this
def RD (w:World) (Bt:Nat) (m:RM) (n:Nat) (pre:List (Fin n)) (W:World):Prop :=
 ∃ va na ca vb nb cb rs bs,aA W Bt #[ah va na ca,ah vb nb cb] 198∧W.ownsRow w.heap.size 200 1 (ah va na ca) pre.length rs∧W.ownsRow w.heap.size 201 1 (ah vb nb cb) pre.length bs ∧
  vG (fun (i:Fin n) r=>jh W r (xS (m.getD i.1 []))) pre rs∧vG (fun (i:Fin n) r=>aZ W r (gB (m.getD i.1 []))) pre bs
theorem RD.kept {w:World} {Bt:Nat} {m:RM} {n:Nat} {pre:List (Fin n)} {W W':World} (h:RD w Bt m n pre W) (k:Keep [] W W'):RD w Bt m n pre W':=by
 obtain ⟨va,na,ca,vb,nb,cb,rs,bs,h1,h2,h3,h4,h5⟩:=h;exact ⟨va,na,ca,vb,nb,cb,rs,bs,k _ _ _ zi h1,mK h2 k zi,mK h3 k zi,h4.mono fun _ _ h=>h.kept k zi zi,h5.mono fun _ _ h=>fG.aZ.kept h k zi⟩
def XV (n:Nat) (v:Value):Prop:=∀ pa k c s,v= aB #[ah (some pa) k c,s]→n≤pa.block
theorem MI {w:World} {base k n c:Nat} {T:TypeId} {va:Option Addr} {s:Value} {xs:List Value} (h:w.ownsRow base T 1 (ah va n c) k xs):XV base (aB #[ah va n c,s]):=by
 intro pa k' c' s' e;simp only [Value.agg.injEq] at e
 have e1:Value.slice va n c= ah (some pa) k' c':=by
  have:=congrArg (fun a=>a[0]?) e
  simpa using this
 obtain ⟨-, ⟨h2, -⟩|⟨g,cap,cur,h3,h4, -⟩⟩:=h
 ·rw [e1] at h2;cases h2
 ·rw [e1] at h3;simp only [Value.slice.injEq,Option.some.injEq] at h3;rw [h3.1];exact h4
theorem U6 (v:Value) (m:RM) (w:World) (h:nQ w v m.fr) (hm:m.length≤4) (hq:∀ r∈m,r.length≤4∧∀ q∈r,jk q=true) :
  Calls Tryz.prog 131 #[v] w fun e w'=>∃ v,e= aj v∧Bw w w'∧aO0 w' v m∧XV w.heap.size v:=by
 obtain ⟨ir,ir1,ir2,ir3,ir4⟩:=info_parts ZB;obtain ⟨im,im1,im2,im3,im4⟩:=info_parts ZC;obtain ⟨rs,hR,hlen,hF⟩:=h;have hlm:rs.length=m.length:=hlen.trans (List.length_map _)
 have Uf:Hid (∀ i (h:i<rs.length),vC w 38 rs[i] ((m.getD i []).map Fr.of)∧(m.getD i []).length≤4∧∀ q∈m.getD i [],jk q=true):=zh fun i hi=>by
  have him:i<m.length:=by omega
  have e:m.getD i []=m[i]:=by simp [him]
  rw [e];refine ⟨?_,hq _ (dx _)⟩;have:=hF i hi (by rw [← hlen];exact hi)
  simpa [RM.fr] using this
 have HR:=zh hR;have HLM:=zh hlm;have hR2:=hR;obtain ⟨a,cap,rfl, -⟩:=hR2;clear hR hF hlen hlm hq;refine (callsIn_wide (n:=3)).1 ?_;refine callsIn_of_wp_marks Tryz.func131 rfl trivial ?_ rfl;simp only [Tryz.ntmps131,List.size_toArray,aV,List.length_nil,Nat.reduceAdd,Nat.reduceSub,Array.replicate_succ,Array.replicate_zero,List.push_toArray,List.append_toArray,List.nil_append,bP]
 gi_wp2_with (refine ⟨trivial,?_⟩;gi_at_call 197;refine (Lf Fence.wide 2 trivial rfl _ _ _ _).mono ?_;rintro e w' ⟨rfl,rfl⟩)
 obtain ⟨W0,hW0⟩:∃ W0,((w.alloc (.cells #[ah none 0 0,ah none 0 0] 198)).alloc (.cells #[ah none 0 0,ah none 0 0] 198)).alloc (.cells #[ah a rs.length cap] 126)=W0:=⟨_,rfl⟩;have hB0:Bw w W0:=by rw [← hW0];exact aI
 have hbx0:aA W0 w.heap.size #[ah none 0 0,ah none 0 0] 198:=by rw [← hW0];exact bq
 have Pf:aA W0 (w.heap.size+1) #[ah none 0 0,ah none 0 0] 198:=by rw [← hW0];exact bq
 have tL:aA W0 (w.heap.size+1+1) #[ah a rs.length cap] 126:=by rw [← hW0];exact bq
 rw [hW0]
 refine wpIn_rangeFunc_ownF (α:=Fin rs.length) rfl zo (gf:=264) (lb:=#[ay (some ⟨w.heap.size+1+1,0,none⟩)]) rfl trivial (enters_of Tryz.func264 zk rfl)
  (BJ Fence.wide 2 trivial rfl zo (w.heap.size+1+1) w.heap.size _ rs w _ tL.lt hB0.size ((tL.cell 0).trans rfl) HR.out (aC _) hB0) belowK_t (belowK_b hB0.size) (Below.refl _ _) (fun _=>rfl)
  (fun pre W=>(RD w (w.heap.size+1) m rs.length pre W∧aA W w.heap.size #[ah none 0 0,ah none 0 0] 198)∧Bw w W)
  (fun _ _ _=>False)
  (OwnFrom.and (Own.from (fun s A B row hs hg hr=>⟨hs.1.kept (Keep.others hg hr),iF hs.2 hg hr⟩) _) (ownFrom_below (aC _) hB0.size))
  (fun _ _ _ _ _ hs _ _=>hs)
  ⟨⟨⟨_,_,_,_,_,_,[],[],Pf,World.ownsRow_nil _ _ _ _,World.ownsRow_nil _ _ _ _,vG.nil,vG.nil⟩,hbx0⟩,hB0⟩ ?a1 ?assign ?body ?done ?stop
 case assign =>
  intro l x W K hK;unfold enc
  gi_wp2
  exact hK
 case body =>
  rintro l pre x W ⟨⟨hI,hb0⟩,hB⟩ hpl;obtain ⟨va,na,ca,vb,nb,cb,xs,bs,hT,ho1,ho2,h4,h5⟩:=hI;obtain ⟨hfr,hq1,hq2⟩:=Uf.out x.1 x.2;have hpn:pre.length<4:=by have:=HLM.out;omega
  have hx0:xS (m.getD x.1 [])=(m.getD x.1 []).map (nE (gB (m.getD x.1 []))):=rfl;obtain ⟨a',cap',hre, -⟩:=hfr.read;have HCM:=zh (I6 rs[x.1] (m.getD x.1 []) 38 W (hfr.later hB) hq2 zo);rw [hre] at HCM;clear hfr hq1 hq2;generalize rs[x.1]=rx at *;subst hre;unfold Gx at HCM;rw [← hx0] at HCM;have H4:=zh h4;have H5:=zh h5;have HO1:=zh ho1;have pV:=zh ho2;clear h4 h5 ho1 ho2 hx0;have hlr:((m.getD x.1 []).map Fr.of).length=(m.getD x.1 []).length:=List.length_map _;rw [hlr] at HCM ⊢;have HX:Hid (∃ r:List Rat,m.getD x.1 []=r):=zh ⟨_,rfl⟩;obtain ⟨r,hr⟩:=HX.out;rw [hr] at HCM ⊢;have HRR:=zh hr;clear hr HX hlr
  gi_wp2_with (first
   | (refine ⟨trivial,?_⟩;gi_at_call 132;refine (CallsIn.inRound l (callsIn_wide.2 HCM.out)).mono ?_;rintro e w1 ⟨vt,vd,rfl,hc1,hv1,hv2⟩;obtain ⟨at',ct',rfl, -⟩:=hv1.read;obtain ⟨ad,nd,cd,rfl⟩:=hv2.slice;have HV1:=zh hv1;have Ci:=zh hv2;clear hv1 hv2;have hT1:=hT.later hc1;have cT:=hT1.cell;have fT:=hT1.free;have lT:=hT1.lt)
   | (gi_at_builtin;refine wpListIn_append_own _ rfl (.tmp 18) (.tmp 20) 195 rfl w.heap.size 200 ir (ah none 0 0) 1 24 Tryz.underlying195 ir1 ir2 ir3 ir4 rfl zd _ _ _ rfl ((yM HO1.out hc1).alloc _) ⟨w1.heap.size,0,none⟩ 1 1 [ah at' (xS r).length ct'] rfl rfl (by intro t u ht;match t,ht with|0,ht=>simp at ht;subst ht;simp [Addr.add]) (by intro u hu;simp at hu;subst hu;rfl) (by unfold maxLen;omega) zo (by have:=hB.size;have:=hc1.size;simp;omega) ?_))
  intro v2 w2 hown2 hgrow2 _;obtain ⟨g2,c2,rfl⟩:=ownsRow_succ hown2;have k2:Keep [200] w1 w2:=Keep.trans (Keep.of_below aI) (Keep.grown ((yM HO1.out hc1).alloc _) hgrow2);have K2:Hid (Keep [200] W w2):=zh (Keep.trans (Keep.of_below hc1) k2);have hT2:=k2 _ _ _ zd hT1;replace cT:=hT2.cell;replace fT:=hT2.free;replace lT:=hT2.lt;have GH:=hT2.GH;have ZT:Bw w w1:=hB.trans (hc1.mono hB.size);have hbw2:Bw w w2:=(bL ZT _).grown hgrow2 (by have:=ZT.size;simp;omega) (fun k hk=>(HO1.out.lt k hk).1);have ko2:KeepsOthers w1 w2:=(KeepsOthers.alloc _ _).trans (Ca ((yM HO1.out hc1).alloc _) hgrow2);have aW9:Below w.heap.size W w2:=(Below.alloc (hc1.mono hB.size) ZT.size _).grown hgrow2 (by have:=ZT.size;simp;omega) (fun k hk=>(HO1.out.lt k hk).1);have HW2:=zh hown2;have KV:=zh k2
  have XM:Hid ((w2.setCell ⟨w.heap.size+1,0,none⟩ (ah (some ⟨g2,0,none⟩) (pre.length+1) c2)).ownsRow w.heap.size 201 1 (ah vb nb cb) pre.length bs):=zh (mK (mK pV.out K2.out zd) (Keep.setCell GH) zd);have be4:=hbw2.size;clear hown2 hgrow2 k2 hT1
  gi_wp2_with (gi_at_builtin;refine wpListIn_append_own _ rfl (.tmp 24) (.tmp 26) 196 rfl w.heap.size 201 im (ah none 0 0) 1 24 Tryz.underlying196 im1 im2 im3 im4 rfl zd _ _ _ rfl (XM.out.alloc _) ⟨w2.heap.size,0,none⟩ 1 1 [ah ad nd cd] rfl rfl (by intro t u ht;match t,ht with|0,ht=>(simp at ht;subst ht;exact ((aA.yO (b:=w2.heap.size) zi).cell 0).trans rfl)) (by intro u hu;simp at hu;subst hu;rfl) (by unfold maxLen;omega) zo (by simp;omega) ?_)
  intro v3 w3 hown3 hgrow3 _;obtain ⟨g3,c3,rfl⟩:=ownsRow_succ hown3;have k3:Keep [201] (w2.setCell ⟨w.heap.size+1,0,none⟩ (ah (some ⟨g2,0,none⟩) (pre.length+1) c2)) w3:=Keep.trans (Keep.of_below aI) (Keep.grown (XM.out.alloc _) hgrow3);have hT3:=k3 _ _ _ zd (hT2.set 0 (ah (some ⟨g2,0,none⟩) (pre.length+1) c2));replace cT:=hT3.cell;replace fT:=hT3.free;replace lT:=hT3.lt;have ZA:=hT3.GH;have aW4:Bw w w3:=(bL (hbw2.setCell zi _) _).grown hgrow3 (by simp;omega) (fun k hk=>(XM.out.lt k hk).1);have ko3:KeepsOthers (w2.setCell ⟨w.heap.size+1,0,none⟩ (ah (some ⟨g2,0,none⟩) (pre.length+1) c2)) w3:=(KeepsOthers.alloc _ _).trans (Ca (XM.out.alloc _) hgrow3);have aW8:Below w.heap.size W w3:=(Below.alloc (aW9.setCell zi _) (by simp;omega) _).grown hgrow3 (by simp;omega) (fun k hk=>(XM.out.lt k hk).1);have HW3:=zh hown3
  have K3:Hid (Keep [201] (w2.setCell ⟨w.heap.size+1,0,none⟩ (ah (some ⟨g2,0,none⟩) (pre.length+1) c2)) w3):=zh k3;clear hown3 hgrow3 k3
  gi_wp2
  have aW3:=aA.keep (hb0.later hc1) KV.out zd;have aW2:=aW3.setOther (ah (some ⟨g2,0,none⟩) (pre.length+1) c2) (a:=⟨w.heap.size+1,0,none⟩) zi;have aW1:=aA.keep aW2 K3.out zd;have hbz:=aW1.setOther (ah (some ⟨g3,0,none⟩) (pre.length+1) c3) (a:=⟨w.heap.size+1,1,none⟩) zi;refine ⟨((((gK hc1).trans ko2).trans (KeepsOthers.setCell _ _ _)).trans ko3).trans (KeepsOthers.setCell _ _ _),aW8.setCell zi _,⟨⟨_,_,_,_,_,_,xs++[ah at' (xS r).length ct'],bs++[ah ad nd cd],hT3.set 1 _,?_,?_,?_,?_⟩,hbz⟩,aW4.setCell zi _⟩
  ·rw [List.length_append];exact mK (mK (mK HW2.out (Keep.setCell GH) zd) K3.out zd) (Keep.setCell ZA) zd
  ·rw [List.length_append];exact mK HW3.out (Keep.setCell ZA) zd
  ·have kk:Keep [200,198,201] w1 (w3.setCell ⟨w.heap.size+1,1,none⟩ (ah (some ⟨g3,0,none⟩) (pre.length+1) c3)) :=
    (((KV.out.mono zi).trans ((Keep.setCell GH).mono zi)).trans (K3.out.mono zi)).trans ((Keep.setCell ZA).mono zi)
   refine vG.snoc ((H4.out.mono fun _ _ h=>h.later hc1).mono fun _ _ h=>jh.kept h kk zd zd) ?_;rw [HRR.out];exact jh.kept HV1.out kk zd zd
  ·have kk:Keep [200,198,201] w1 (w3.setCell ⟨w.heap.size+1,1,none⟩ (ah (some ⟨g3,0,none⟩) (pre.length+1) c3)) :=
    (((KV.out.mono zi).trans ((Keep.setCell GH).mono zi)).trans (K3.out.mono zi)).trans ((Keep.setCell ZA).mono zi)
   refine vG.snoc ((H5.out.mono fun _ _ h=>h.later hc1).mono fun _ _ h=>fG.aZ.kept h kk zd) ?_;rw [HRR.out];exact fG.aZ.kept Ci.out kk zd
 case done =>
  rintro D ys W hD rfl ⟨⟨hI,hb0⟩,hB⟩ hK;obtain ⟨va,na,ca,vb,nb,cb,xs,bs,hT,ho1,ho2,h4,h5⟩:=hI;have cT:=hT.cell;have fT:=hT.free;have c0:=hb0.cell;have f0:=hb0.free;have is0:=hb0.GH;have H4:=zh (Jb (R:=fun zs r=>jh W r zs) xS m HLM.out h4);have H5:=zh (Jb (R:=fun d r=>aZ W r d) gB m HLM.out h5);have HO1:=zh (Row.gP ho1);have pV:=zh (Row.gP ho2);have HFT:=zh (MI (s:=ah vb nb cb) ho1);clear h4 h5 ho1 ho2
  gi_wp2
  have hK':=((KeepsOthers.setCell W ⟨w.heap.size,0,none⟩ (ah va na ca)).trans (KeepsOthers.setCell _ ⟨w.heap.size,1,none⟩ (ah vb nb cb))).same D _ hK rfl;refine ⟨by simp,.inl ⟨_,_,rfl,run_takeDeferred hK',?_⟩⟩
  have hk5:Keep [198] W (((W.setCell ⟨w.heap.size,0,none⟩ (ah va na ca)).setCell ⟨w.heap.size,1,none⟩ (ah vb nb cb)).putObj D (.deferred none)) :=
   ((Keep.setCell is0).trans (Keep.setCell is0.setCell)).trans ((Keep.others (grownBy_putObj' _ D (.deferred none)) (fun r e=>by cases e;exact ⟨_,hK',rfl⟩)).mono zi)
  have hb3:=iF ((hb0.set 0 (ah va na ca)).set 1 (ah vb nb cb)) (grownBy_putObj' _ D (.deferred none)) (fun r e=>by cases e;exact ⟨_,hK',rfl⟩);refine ⟨_,results_cell_row rfl _ _ w.heap.size 198 _ (0,0) _ rfl hb3 Tryz.underlying198 rfl zk,⟨_,rfl,?_,⟨_,_,_,_,_,_,rfl,⟨xs,fG.Row.kept HO1.out hk5 zd,H4.out.mono fun _ _ h=>jh.kept h hk5 zd zd⟩,⟨bs,fG.Row.kept pV.out hk5 zd,H5.out.mono fun _ _ h=>fG.aZ.kept h hk5 zd⟩⟩,HFT.out⟩⟩;exact ((hB.setCell zi _).setCell zi _).trans (belowK_b (w:=w) (aC _) _ D _ _ (by have:=hB0.size;omega) hK' rfl rfl)
 case stop =>
  rintro D c pre W _ _ h _;exact h.elim
theorem JB (v:Value) (m:RM) (w:World) (h:nQ w v m.fr) (hm:m.length≤4) (hq:∀ r∈m,r.length≤4∧∀ q∈r,jk q=true) :
  Calls Tryz.prog 131 #[v] w fun e w'=>∃ v,e= aj v∧Bw w w'∧aO0 w' v m :=
 (U6 v m w h hm hq).mono fun _ _ ⟨v,h1,h2,h3,_⟩=>⟨v,h1,h2,h3⟩
end Go.Proofs.matrix
namespace Go.Proofs.matrix
open Go Go.RowKit Go.SW Go.Num Go.Mem Go.Proofs Go.Dec Go.fG
theorem QD (f:Nat→Int):∀ n,uJ f n=BS f n
 | 0=>rfl
 | n+1=>by simp only [uJ,BS];rw [QD f n]
theorem aF4:(Tryz.prog.info? 38).map (fun i=>(i.zero,i.size,i.bytes))=some (some (.agg #[O ⟨#[]⟩,O ⟨#[]⟩]),2,32):=by kernel_rfl
def XC (w:World) (xs:List Rat) (e:Ending) (w':World):Prop :=
 (xs.all jk=true∧∃ vo,e= aj (aD #[vo,Z I 0])∧Bw w w'∧vC w' 38 vo (xs.map Fr.of)) ∨
 (xs.all jk=false∧e= aj (aD #[ah none 0 0,Z I 6])∧Bw w w')
def RM.ok (m:RM) (n:Nat):Prop:=1≤m.length∧m.length≤4∧1≤n∧n≤4∧∀ r∈m,r.length=n∧∀ q∈r,jk q=true
theorem Ro {qs:List Rat} (h:∀ q∈qs,jk q=true):jU (qs.map Fr.of)=0:=by
 unfold jU;rw [if_pos];rw [dI];intro a ha;obtain ⟨q,hq,rfl⟩:=List.mem_map.1 ha;rw [je (h q hq)];rfl
theorem RM.ok.Dk {m:RM} {n:Nat} (h:m.ok n):Kk m.fr=0:=by
 obtain ⟨h1,h2,h3,h4,h5⟩:=h;unfold Kk;rw [if_pos];unfold okM RM.fr;cases m with
 | nil=>simp at h1
 | cons r t =>
  have hr:=h5 r zi;simp only [bH,List.headD_cons,List.length_map,aF,decide_eq_true_eq];refine ⟨⟨⟨⟨by simp,by simpa using h2⟩,by omega⟩,by omega⟩,?_⟩;rw [dI];intro x hx
  have key:∀ s∈r::t,((s.map Fr.of).length == r.length&&jU (s.map Fr.of) == 0)=true:=fun s hs=>by
   have hs2:=h5 s hs;rw [Ro hs2.2,List.length_map,hs2.1,hr.1];simp
  rcases List.mem_cons.1 hx with rfl|hx
  ·exact key r zi
  ·obtain ⟨s,hs,rfl⟩:=List.mem_map.1 hx;exact key s (by simp [hs])
theorem nQ.head {w:World} {v:Value} {m:RM} (h:nQ w v m.fr) (h0:0<m.length) :
  ∃ b off cap a0 cap0,v= ah (some ⟨b,off,none⟩) m.length cap∧b<w.heap.size∧w.cell? ⟨b,off,none⟩=some (.slice a0 (m.headD []).length cap0):=by
 obtain ⟨rs,hR,hlen,hF⟩:=h;have hl:m.fr.length=m.length:=List.length_map _
 rcases hR.cases with ⟨rfl,rfl⟩|⟨b,off,cap,arr,rfl,k1,k2,k3,k4⟩
 ·simp at hlen;omega
 ·have h0r:0<rs.length:=by omega
  obtain ⟨a0,cap0,e0, -⟩:=(hF 0 h0r zo).read;refine ⟨b,off,cap,a0,cap0,by rw [hlen,hl],k3.lt,?_⟩;have:=(k3.cell (off+0)).trans (k4 0 h0r);rw [e0] at this;cases m with
  | nil=>simp at h0
  | cons r t=>simpa [RM.fr] using this
theorem Gv {w:World} {g:Nat} {T:TypeId} {n k:Nat} {f:Nat→Fr} (h:Fill w g T n k (KW f)) {a:Addr} (u:Value) (hne:g≠a.block):Fill (w.setCell a u) g T n k (KW f):=by
 obtain ⟨arr,h1,h2,h3⟩:=h;exact ⟨arr,h1.setOther u hne,h2,h3⟩
theorem PY {w:World} {va:Option Addr} {na ca:Nat} {xss:List (List Int)} (h:Nu w (ah va na ca) xss) :
  na=xss.length∧∀ k (_:k<xss.length),∃ b off pa n cc,va=some ⟨b,off,none⟩∧b<w.heap.size∧w.cell? ⟨b,off+k,none⟩=some (.slice pa n cc)∧jh w (ah pa n cc) xss[k]:=by
 obtain ⟨rs,hR,hl,hF⟩:=h
 rcases hR.cases with ⟨h1,h2⟩|⟨b,off,cap,arr,h1, -, -, h4,h5⟩
 ·simp only [Value.slice.injEq] at h1;subst h2;have hl0:0=xss.length:=hl;exact ⟨by omega,fun k hk=>absurd hk zo⟩
 ·simp only [Value.slice.injEq] at h1;refine ⟨by rw [h1.2.1,hl],fun k hk=>?_⟩;have hk2:k<rs.length:=by omega
  have hi:=hF k hk hk2;obtain ⟨pa,cc,e, -⟩:=hi.read;refine ⟨b,off,pa,_,cc,h1.1,h4.lt,?_,e ▸ hi⟩;rw [h4.cell,h5 k hk2,e]
theorem P5 {w:World} {va:Option Addr} {na ca:Nat} {ds:List Nat} (h:NH w (ah va na ca) ds) :
  na=ds.length∧∀ k (_:k<ds.length),∃ b off pa n cc,va=some ⟨b,off,none⟩∧b<w.heap.size∧w.cell? ⟨b,off+k,none⟩=some (.slice pa n cc)∧aZ w (ah pa n cc) ds[k]:=by
 obtain ⟨rs,hR,hl,hF⟩:=h
 rcases hR.cases with ⟨h1,h2⟩|⟨b,off,cap,arr,h1, -, -, h4,h5⟩
 ·simp only [Value.slice.injEq] at h1;subst h2;have hl0:0=ds.length:=hl;exact ⟨by omega,fun k hk=>absurd hk zo⟩
 ·simp only [Value.slice.injEq] at h1;refine ⟨by rw [h1.2.1,hl],fun k hk=>?_⟩;have hk2:k<rs.length:=by omega
  have hi:=hF k hk hk2;obtain ⟨pa,n,cc,e⟩:=hi.slice;refine ⟨b,off,pa,n,cc,h1.1,h4.lt,?_,e ▸ hi⟩;rw [h4.cell,h5 k hk2,e]
theorem Ga (v vl:Value) (m:RM) (qs:List Rat) (T:TypeId) (w:World) (h:nQ w v m.fr) (hl:vC w T vl (qs.map Fr.of)) (hm:m.ok qs.length) (hq:∀ q∈qs,jk q=true) (ht:ko.Pow w) :
  Calls Tryz.prog 73 #[v,vl] w (XC w (m.map fun r=>mV r qs)):=by
 have hm2:=hm;obtain ⟨m1,m4,n1,n4,hrows⟩:=hm2;obtain ⟨i0,hi,hz0,hz1,hz2⟩:=info_parts aF4;obtain ⟨b,off,cap,a0,cap0,rfl,lb,hc0⟩:=nQ.head h zo
 have hw0:(m.headD []).length=qs.length:=by
  cases m with
  | nil=>simp at m1
  | cons r t=>exact (hrows r zi).1
 rw [hw0] at hc0;obtain ⟨al,bj9,rfl,aW0,aV9, -⟩:=hl.read;have HC1:=zh (fun w' hb=>kI _ m.fr w' (h.later hb));rw [hm.Dk] at HC1;have Ug:=zh (fun w' hb=>Ap _ (qs.map Fr.of) T w' (hl.later hb));rw [Ro hq] at Ug;have HRD:=zh (fun w' hb=>JB _ m w' (h.later hb) m4 (fun r hr=>⟨by have:=(hrows r hr).1;omega,(hrows r hr).2⟩));have HCM:=zh (fun w' hb=>I6 _ qs T w' (hl.later hb) hq zo);have hln:(qs.map Fr.of).length=qs.length:=List.length_map _;rw [hln] at Ug HCM aW0 ⊢;have aO9:=zh hrows;have HQ:=zh hq;have HT:=zh ht;clear h hl hm hq ht hrows hw0 hln;have h0m:0<m.length:=by omega
 go_enter Tryz.func73,Tryz.ntmps73
 go_wp2_with fail
 refine (HC1.out _ (Below.refl _ _)).mono ?_;rintro e v1 ⟨rfl,hc1⟩;go_wp2_with fail
 refine (Ug.out _ hc1).mono ?_;rintro e v2 ⟨rfl,hc2⟩;have c0:=((Bt hc1 hc2).cell (p:=⟨b,off,none⟩) lb).trans hc0;go_wp2_with fail
 refine (HRD.out _ (Bt hc1 hc2)).mono ?_;rintro e v3 ⟨vt,rfl,hc3,htab⟩;obtain ⟨va,na,ca,vb,nb,cb,rfl,hrw,hmg⟩:=htab;have HRW:=zh hrw;have HMG:=zh hmg;clear hrw hmg;go_wp2_with fail
 refine (HCM.out _ (bL (Bt (Bt hc1 hc2) hc3) _)).mono ?_;rintro e v4 ⟨vtt,vd,rfl,hc4,hv1,hv2⟩;obtain ⟨at',ct',rfl, -⟩:=hv1.read;obtain ⟨ad,nd,cd,rfl⟩:=hv2.slice;have hx8:=(aA.new v3 #[ah va na ca,ah vb nb cb] 198).later hc4;have hbv:Bw v3 v4:=Bt (bL (Below.refl _ _) _) hc4;replace HRW:=zh (HRW.out.later hbv);replace HMG:=zh (HMG.out.later hbv);have HVT:=zh hv1;have HVD:=zh hv2;have hbw:Bw w v4:=Bt (Bt (Bt hc1 hc2) hc3) hbv;have htl:(qs.map (nE (gB qs))).length=qs.length:=List.length_map _;rw [htl] at HVT ⊢;obtain ⟨B8,hB8⟩:∃ x,v3.heap.size=x:=⟨_,rfl⟩;rw [hB8] at hx8 ⊢;have HX8:=zh hx8;clear hv1 hv2 hbv hx8 hB8 htl
 go_wp2_with (at_make;refine wpList_make_full _ rfl _ _ 130 rfl w.heap.size 38 i0 (aB #[O ⟨#[]⟩,O ⟨#[]⟩]) 2 Tryz.underlying130 hi hz0 hz1 _ _ _ _ m.length rfl rfl zo zo (by rw [hz2];omega) (by unfold maxLen;omega) hbw.size ?_)
 intro w5 hown hgrow;have hb5:Bw v4 w5:=(Below.refl _ _).grown hgrow (aC _) (fun k hk=>by cases hk);have HF:=zh (Fill.start (ok:=KW (fun i=>Fr.of (mV (m.getD i []) qs))) hown);have hG:w.heap.size≤v4.heap.size:=hbw.size;obtain ⟨hna,aG0⟩:=PY HRW.out;obtain ⟨hnb,aF9⟩:=P5 HMG.out;have hl1:(m.map xS).length=m.length:=List.length_map _;have hl2:(m.map gB).length=m.length:=List.length_map _;rw [hl1] at hna;rw [hl2] at hnb;subst hna hnb;have HR1:=zh aG0;have HR2:=zh aF9;clear hown hgrow aG0 aF9 hl1 hl2 HRW HMG;go_wp2_with fail
 go_loopw [44] (fun iv wr=>∃ k:Nat,iv= Z I (k:Int)∧k≤m.length∧Hid (Fill wr v4.heap.size 38 m.length k (KW (fun i=>Fr.of (mV (m.getD i []) qs))))∧Hid (∀ i,i<k→jk (mV (m.getD i []) qs)=true)∧Bw v4 wr) (fun iv _=>m.length - (intOf iv).toNat)
 case atStart=>exact ⟨0,rfl,by omega,HF,zh (fun i h=>by omega),hb5⟩
 case round =>
  obtain ⟨k,rfl,hk,HF,HK,hb⟩:=hrel;have hx8:=HX8.out.later hb;have c8:=hx8.cell;have l8:=hx8.lt
  rcases aH k m.length with hlt|hge
  ·obtain ⟨b1,off1,p1,n1,d1,rfl,e2,e3,e4⟩:=HR1.out k (by rw [List.length_map];exact hlt);obtain ⟨b2,off2,p2,n2,d2,rfl,f2,f3,f4⟩:=HR2.out k (by rw [List.length_map];exact hlt);have cr:=(hb.cell (p:=⟨b1,off1+k,none⟩) e2).trans e3;have cm:=(hb.cell (p:=⟨b2,off2+k,none⟩) f2).trans f3;have hlt2:(k:Int)<(m.length:Int):=by omega
   have hrow:=aO9.out m[k] (dx _);have hgd:m.getD k []=m[k]:=by simp [hlt]
   simp only [List.getElem_map] at e4 f4;have H4:=zh (e4.later hb);have G4:=zh (f4.later hb);have ZI:=HVT.out.later hb;have aZ9:=zh ZI;have ad6:=zh (HVD.out.later hb);have ad7:=zh hrow;have HGD:=zh hgd;have lG:=HF.out.lt;clear e2 e3 e4 f2 f3 f4 hrow hgd ZI;generalize m[k]=r at *;have hrl:=ad7.out.1;have htl:(xS r).length=r.length:=List.length_map _
   have aP2:=zh (fun w' hb=>av9 _ _ (xS r) (qs.map (nE (gB qs))) w' (H4.out.later hb) (aZ9.out.later hb) (by rw [htl,List.length_map,hrl]) zo zo
    (fun i=>au (Dj ad7.out.2 zo i) zo) (fun i=>au (Dj HQ.out n4 i) zo))
   have hcr:=Dl r ad7.out.2;have hcq:=Dl qs HQ.out;have hpr:=(oI r).1;have hpq:=(oI qs).1;have hprod:=gV hpr hpq;have hsp:=mR (B:=1000000000) zo (gB r) (gB qs);have Wz:=aw0 (r:=r) (s:=qs) hrl.symm;have KR:=zh (show sz 1000000000 (gB r)≤1099511627776 by omega);have KQ:=zh (show sz 1000000000 (gB qs)≤1099511627776 by omega)
   have hz1:sz 1000000000 (MN (xS r) (qs.map (nE (gB qs)))).natAbs≤549755813888:=by
    unfold MN
    have:=JF (fun i=>(xS r).getD i 0*(qs.map (nE (gB qs))).getD i 0) 2000 (fun i=>by
     have h1:=yC ((xS r).getD i 0) ((qs.map (nE (gB qs))).getD i 0);have h2:=Dj ad7.out.2 zo i;have h3:=Dj HQ.out n4 i;unfold xS at *;omega) (xS r).length
    omega
   have hzd:MN (xS r) (qs.map (nE (gB qs)))=BS (fun i=>(r.map (nE (gB r))).getD i 0*(qs.map (nE (gB qs))).getD i 0) r.length:=by
    unfold MN;rw [htl,QD];rfl
   rw [← hzd] at Wz;obtain ⟨z,EZ⟩:∃ x:Int,Hid (MN (xS r) (qs.map (nE (gB qs)))=x):=⟨_,zh rfl⟩;obtain ⟨D,ED⟩:∃ x:Nat,Hid (gB r*gB qs=x):=⟨_,zh rfl⟩;rw [EZ.out] at aP2 hz1 Wz;rw [ED.out] at hprod hsp Wz;have KZ:=zh hz1;have KD:Hid (sz 1000000000 ((D:Nat):Int).natAbs≤549755813888):=zh (by rw [Int.natAbs_natCast];omega);have ND:Hid (((D:Nat):Int)≠0):=zh zo;have SD:Hid (iR D false=((D:Nat):Int)):=zh rfl;have HW:Hid ((z:Rat) / ((((D:Nat):Int)):Rat)=mV r qs):=zh (by rw [Rat.intCast_natCast];exact Wz);clear hrl htl hcr hcq hpr hpq hprod hsp Wz hz1 hzd;obtain ⟨q,EQ⟩:∃ x:Rat,Hid (mV r qs=x):=⟨_,zh rfl⟩;rw [EQ.out] at HW;go_wp2_with fail
   refine aO [(.pure,0),(.read,1),(.pure,2),(.pure,3),(.read,4),(.pure,5),(.pure,7),(.read,8),(.pure,9),(.pure,10),(.read,11),(.pure,12),(.ext,6),(.ext,13),(.ext,14),(.ext,15),(.pure,16),(.pure,17),(.pure,18),(.alloc #[O ⟨#[]⟩,O ⟨#[]⟩] 38,19),(.fin,20),(.fin,21)] zk zk zR zP ?_;refine zV ?_;refine aL rfl rfl (fun w11 aI7 J hJ=>?_);go_simp;replace G4:=zh (aZ.carry G4.out aR aI7);replace ad6:=zh (aZ.carry ad6.out aR aI7);refine (aP2.out _ aI).mono ?_;rintro e v11 ⟨v,rfl,MC,hv⟩;obtain ⟨bf6,lHz,bl1,rfl,Hz⟩:=hv;replace Hz:=zh Hz;replace G4:=zh (aZ.later G4.out MC);replace ad6:=zh (aZ.later ad6.out MC);refine hJ _ _ MC ?_;clear hJ J;refine aL rfl rfl (fun w12 Pj J hJ=>?_);go_simp;replace Hz:=zh (aZ.later Hz.out Pj)
   refine ((jB _ _ (gB r) (gB qs) _ aR aR KR.out KQ.out).mono (by rw [ED.out];exact fun _ _ h=>h)).mono ?_;rintro e v12 ⟨v,rfl,WA,hv⟩;obtain ⟨aR8,lHm,aY1,rfl⟩:=hv.slice;have Hm:=zh hv;clear hv;replace Hz:=zh (aZ.later Hz.out WA);refine hJ _ _ WA ?_;clear hJ J;refine aL rfl rfl (fun w13 Ah J hJ=>?_);go_simp;replace Hz:=zh (aZ.later Hz.out Ah);refine ((fF _ D false _ aR).mono (by rw [SD.out];exact fun _ _ h=>h)).mono ?_;rintro e v13 ⟨v,rfl,ZQ,hv⟩;obtain ⟨Co,Ua,Cx,rfl,Hs⟩:=hv;replace Hs:=zh Hs;replace Hz:=zh (aZ.later Hz.out ZQ);refine hJ _ _ ZQ ?_;clear hJ J;have hq2:jk q=true∨jk q=false:=by cases jk q<;>simp
   rcases hq2 with hq2|hq2
   ·have NI:Hid (Fr.res (fG.wr q)= aD #[aB #[O (Fr.of q).n,O (Fr.of q).d],Z I 0]):=zh (by unfold fG.wr;rw [if_pos hq2];rfl);have XL:=zh hq2;clear hq2;obtain ⟨s1,Es1⟩:∃ x:ByteArray,Hid ((Fr.of q).n=x):=⟨_,zh rfl⟩;obtain ⟨s2,Es2⟩:∃ x:ByteArray,Hid ((Fr.of q).d=x):=⟨_,zh rfl⟩;rw [Es1.out,Es2.out] at NI;refine aL rfl rfl (fun w14 WC J hJ=>?_);go_simp;refine ((kV _ _ z ((D:Nat):Int) _ (dS.dV aR) (dS.dV aR) ND.out KZ.out KD.out (HT.out.later aI)).mono (by rw [HW.out,NI.out];exact fun _ _ h=>h)).mono ?_;rintro e v14 ⟨rfl,at6⟩;refine hJ _ _ at6 ?_;clear hJ J;refine zV ?_;refine dU rfl (fun b13 w6 Wm Q8 as3 aJ3 qP=>?_);go_simp;replace qP:aA _ _ _ _:=qP;have WE:w.heap.size≤b13:=(by first|omega|exact au (Below.size (B:=w.heap.size) aI) Q8);refine cZ [_,_] rfl (fun w7 jY=>?_)
    replace qP:=aA.later (qP) jY;replace ax0:=qP.cell;replace av1:=qP.free;replace aq2:=qP.lt;replace HF:Hid (Fill w7 v4.heap.size 38 m.length k (KW (fun i=>Fr.of (mV (m.getD i []) qs)))):=zh (HF.out.later aI (fun _ _ _ h=>h));have hN:wr.heap.size≤b13:=Q8;have ne1:v4.heap.size≠b13:=by omega
    have ne2:b13≠v4.heap.size:=by omega
    obtain ⟨⟨y1,cy1⟩,⟨y2,cy2⟩,fy⟩:=HF.out.cells hlt;have hF2:=zh (Gv (Gv HF.out (a:=⟨b13,0,none⟩) (O s1) ne1) (a:=⟨b13,1,none⟩) (O s2) ne1);have jY:Bw v4 w7:=aI;have hle:v4.heap.size≤b13:=by omega
    go_wp2_with fail
    go_roundw
    case rel =>
     refine ⟨k+1,by go_num,by omega,zh (hF2.out.step hlt (fun _ _ _ h=>h) ⟨?_,?_⟩),zh fun i hi=>?_,(((jY.setCell hle _).setCell hle _).setCell (aC _) _).setCell (aC _) _⟩
     ·show Value.string s1= O (Fr.of (mV (m.getD k []) qs)).n
      rw [HGD.out,EQ.out,Es1.out]
     ·show Value.string s2= O (Fr.of (mV (m.getD k []) qs)).d
      rw [HGD.out,EQ.out,Es2.out]
     ·rcases aH i k with h|h
      ·exact HK.out i h
      ·obtain rfl:i=k:=by omega
       rw [HGD.out,EQ.out];exact XL.out
    case measure=>exact zM
   ·have NI:Hid (Fr.res (fG.wr q)= aD #[aB #[O ⟨#[]⟩,O ⟨#[]⟩],Z I 6]):=zh (vJ hq2)
    have hbad:(m.map fun r=>mV r qs).all jk=false:=by
     rw [List.all_eq_false];have hkm:k<(m.map fun r=>mV r qs).length:=by rw [List.length_map];exact hlt
     refine ⟨(m.map fun r=>mV r qs)[k],dx _,?_⟩;have e1:(m.map fun r=>mV r qs)[k]=mV (m.getD k []) qs:=by simp [hlt]
     rw [e1,HGD.out,EQ.out,hq2];simp
    have HBAD:=zh hbad;clear hq2 hbad;refine aL rfl rfl (fun w14 WC J hJ=>?_);go_simp;refine ((kV _ _ z ((D:Nat):Int) _ (dS.dV aR) (dS.dV aR) ND.out KZ.out KD.out (HT.out.later aI)).mono (by rw [HW.out,NI.out];exact fun _ _ h=>h)).mono ?_;rintro e v14 ⟨rfl,at6⟩;refine hJ _ _ at6 ?_;clear hJ J;refine zV ?_;refine dU rfl (fun b13 w6 Wm Q8 as3 aJ3 qP=>?_);go_simp;replace qP:aA _ _ _ _:=qP;have WE:w.heap.size≤b13:=(by first|omega|exact au (Below.size (B:=w.heap.size) aI) Q8);refine cZ [_,_] rfl (fun w7 jY=>?_);replace qP:=aA.later (qP) jY;replace ax0:=qP.cell;replace av1:=qP.free;replace aq2:=qP.lt;have aW5:Bw w w7:=aI;go_wp2_with fail
    go_ret2
    exact .inr ⟨HBAD.out,rfl,(aW5.setCell WE _).setCell WE _⟩
  ·obtain rfl:k=m.length:=by omega
   have hall:(m.map fun r=>mV r qs).all jk=true:=by
    rw [dI];intro q hq;obtain ⟨i,hi,rfl⟩:=List.getElem_of_mem hq;have hi2:i<m.length:=by rw [List.length_map] at hi;exact hi
    have:=HK.out i hi2
    simpa [hi2] using this
   have hfr:vC wr 38 (ah (some ⟨v4.heap.size,0,none⟩) m.length m.length) ((m.map fun r=>mV r qs).map Fr.of):=by
    have hll:((m.map fun r=>mV r qs).map Fr.of).length=m.length:=by simp
    have aH3:Fill wr v4.heap.size 38 ((m.map fun r=>mV r qs).map Fr.of).length ((m.map fun r=>mV r qs).map Fr.of).length (KW fun i=>((m.map fun r=>mV r qs).map Fr.of).getD i Fr.no):=by
     rw [hll];obtain ⟨arr,g1,g2,g3⟩:=HF.out;refine ⟨arr,g1,g2,fun i hi=>?_⟩;obtain ⟨x,y,y1,y2,y3,y4⟩:=g3 i hi;refine ⟨x,y,y1,y2,?_⟩;have e:((m.map fun r=>mV r qs).map Fr.of).getD i Fr.no=Fr.of (mV (m.getD i []) qs):=by simp [hi]
     exact ⟨by show x= O (((m.map fun r=>mV r qs).map Fr.of).getD i Fr.no).n;rw [e];exact y3,by show y= O (((m.map fun r=>mV r qs).map Fr.of).getD i Fr.no).d;rw [e];exact y4⟩
    have:=vC.Db aH3 (by rw [hll];omega);rw [hll] at this;exact this
   have Uf:=zh hfr;have ad9:=zh hall;clear hfr hall;go_wp2_with fail
   go_ret2
   exact .inl ⟨ad9.out,_,rfl,Bt hbw hb,Uf.out⟩
end Go.Proofs.matrix
