/- Lemmas for the proof. No condition. -/
import Derived.Test.YtfhappbmgghgdaaGreatDoorWB01
import Derived.Test.YtfhappbmgghgdaaGreatDoorWB02
import Derived.Test.YtfhappbmgghgdaaGreatDoorWB03
import Derived.Test.YtfhappbmgghgdaaGreatDoorWB05
import Derived.Test.YtfhappbmgghgdaaGreatDoorWB06
import Derived.Test.YtfhappbmgghgdaaGreatDoorWB08
import Derived.ChangeKeysEq
import Derived.RangeFuncNested
import Derived.RangeFuncBound
import Derived.RangeFuncCalls
import Derived.RangeFuncFrom
set_option linter.unusedVariables false
set_option linter.unusedSimpArgs false
set_option maxRecDepth 100000
set_option maxHeartbeats 16000000
namespace Go.Proofs.matrix
open Go Go.RowKit Go.SW Go.Num Go.Mem Go.Proofs Go.Dec Go.cK
theorem iX (v:Value) (l:List Fr) (T:TypeId) (w:World) (h:gX w T v l) :
  Calls Tryz.prog 54 #[v] w (fun e w'=>e= .returned (.int .i64 (gN l))∧Below w.heap.size w w'):=by
 obtain ⟨a,cap,rfl,hc1,hc2,hread⟩:=h.read;have H:=zh hread;clear h hread;go_enter Tryz.func54,Tryz.ntmps54
 go_wp2_with fail
 go_loopw [7] (fun iv wr=>∃ k:Nat,iv= .int .i64 (k:Int)∧k≤l.length∧Hid (∀ j (h:j<l.length),j<k→(rd l[j]).isSome=true)∧Below w.heap.size w wr) (fun iv _=>l.length - (intOf iv).toNat)
 case atStart=>exact ⟨0,rfl,by omega,zh (fun j _ h=>by omega),Below.refl _ _⟩
 case round =>
  obtain ⟨k,rfl,hk,HK,hb⟩:=hrel
  rcases Nat.lt_or_ge k l.length with hlt|hge
  ·obtain ⟨b,off,rfl,hbl,hx1,hx2⟩:=H.out k hlt;have hc1:=(hb.cell (p:=⟨b,off+k*2,none⟩) hbl).trans hx1;have hc2:=(hb.cell (p:=⟨b,off+k*2+1,none⟩) hbl).trans hx2;clear hx1 hx2;have hck:=eX.qU l[k];generalize hlk:l[k]=lk at *;obtain ⟨s,t⟩:=lk;cases hv:(rd ⟨s,t⟩).isSome with
   | true =>
    rw [S9 hv] at hck;have CW:Hid (∀ w,Calls Tryz.prog 112 #[.agg #[.string s,.string t]] w (fun e w'=>e= .returned (.int .i64 0)∧Below w.heap.size w w')):=zh hck;have Yi:=zh hlk;have HV:=zh hv;clear hck hlk hv;go_wp2_with fail
    refine (CW.out _).mono ?_;rintro e v1 ⟨rfl,hc1⟩;go_wp2_with fail
    go_roundw
    case rel =>
     refine ⟨k+1,by go_num,by omega,zh fun j hj hjk=>?_,Bt hb ah⟩
     rcases Nat.lt_or_ge j k with h|h
     ·exact HK.out j hj h
     ·obtain rfl:j=k:=by omega
      rw [Yi.out];exact HV.out
    case measure=>exact zM
   | false =>
    rw [aa9 hv] at hck;have CW:Hid (∀ w,Calls Tryz.prog 112 #[.agg #[.string s,.string t]] w (fun e w'=>e= .returned (.int .i64 20)∧Below w.heap.size w w')):=zh hck
    have hno:gN l=20:=by
     unfold gN;rw [if_neg];intro h;have:=List.all_eq_true.1 h l[k] (List.getElem_mem _);rw [hlk,hv] at this;cases this
    have Yh:=zh hno;clear hck hlk hv hno;go_wp2_with fail
    refine (CW.out _).mono ?_;rintro e v1 ⟨rfl,hc1⟩;go_wp2_with fail
    go_ret
    exact ⟨by rw [Yh.out];rfl,Bt hb ah⟩
  ·have hyes:gN l=0:=by
    unfold gN;rw [if_pos];rw [List.all_eq_true];intro x hx;obtain ⟨j,hj,rfl⟩:=List.getElem_of_mem hx;exact HK.out j hj zo
   have OU:=zh hyes;clear hyes;obtain rfl:k=l.length:=by omega
   go_wp2_with fail
   go_ret
   exact ⟨by rw [OU.out];rfl,hb⟩
theorem mQ (a1 a2:ByteArray) (w:World) :
  (binOp .neq 59 (.agg #[.string a1,.string a2]) (.agg #[.string a1,.string a2])).run Tryz.prog w= .ok (.bool false) w:=by
 go_simp
theorem Ua (v1 v2:Value) (l:List Fr) (w:World) (h1:gX w 59 v1 l) (h2:gX w 59 v2 l) :
  Calls Tryz.prog 61 #[v1,v2] w (fun e w'=>e= .returned (.bool true)∧Below w.heap.size w w'):=by
 obtain ⟨a,cap,rfl,hc1,hc2,hr1⟩:=h1.read;obtain ⟨a',cap',rfl,hc1',hc2',hr2⟩:=h2.read;have H1:=zh hr1;have H2:=zh hr2;have Xg:= @mQ;clear h1 h2 hr1 hr2;go_enter Tryz.func61,Tryz.ntmps61
 go_wp2_with fail
 go_loopw [13] (fun iv wr=>∃ k:Nat,iv= .int .i64 (k:Int)∧k≤l.length∧Below w.heap.size w wr) (fun iv _=>l.length - (intOf iv).toNat)
 case atStart=>exact ⟨0,rfl,by omega,Below.refl _ _⟩
 case round =>
  obtain ⟨k,rfl,hk,hb⟩:=hrel
  rcases Nat.lt_or_ge k l.length with hlt|hge
  ·obtain ⟨b,off,rfl,hbl,hx1,hx2⟩:=H1.out k hlt;obtain ⟨b',off',rfl,nE,hy1,hy2⟩:=H2.out k hlt;have hc3:=(hb.cell (p:=⟨b,off+k*2,none⟩) hbl).trans hx1;have hc4:=(hb.cell (p:=⟨b,off+k*2+1,none⟩) hbl).trans hx2;have nT:=(hb.cell (p:=⟨b',off'+k*2,none⟩) nE).trans hy1;have hc6:=(hb.cell (p:=⟨b',off'+k*2+1,none⟩) nE).trans hy2;clear hx1 hx2 hy1 hy2;generalize hlk:l[k]=lk at *;obtain ⟨s,t⟩:=lk;have Yi:=zh hlk;clear hlk;go_wp2_with fail
   go_quiet (fail)
   go_wp2_with fail
   go_roundw
   case rel=>exact ⟨k+1,by go_num,by omega,below_drewN hb _⟩
   case measure=>exact zM
  ·obtain rfl:k=l.length:=by omega
   go_wp2_with fail
   go_ret
   exact ⟨rfl,hb⟩
theorem Qf (v1 v2:Value) (l:List Fr) (w:World) (h1:gX w 59 v1 l) (h2:gX w 59 v2 l) :
  Calls Tryz.prog 60 #[v1,v2] w (fun e w'=>e= .returned (.bool true)∧Below w.heap.size w w'):=by
 have H:=zh (Ua v1 v2 l w h1 h2);obtain ⟨a,cap,rfl, -⟩:=h1.read;obtain ⟨a',cap',rfl, -⟩:=h2.read;clear h1 h2;go_enter Tryz.func60,Tryz.ntmps60
 go_wp2_with fail
 refine H.out.mono ?_;rintro e w1 ⟨rfl,hb⟩;go_wp2_with fail
 go_ret
 exact ⟨rfl,hb⟩
theorem Fq (v1 v2:Value) (m:List (List Fr)) (w:World) (h1:aN w v1 m) (h2:aN w v2 m) :
  Calls Tryz.prog 59 #[v1,v2,.func (.func 60) #[] #[]] w (fun e w'=>e= .returned (.bool true)∧Below w.heap.size w w'):=by
 obtain ⟨rs,hR,hm,hF⟩:=h1;obtain ⟨rs',hR',hm',hF'⟩:=h2;have hll:rs'.length=rs.length:=by omega
 have HS:Hid (∀ k (h:k<rs.length) (h':k<rs'.length) W,Below w.heap.size w W→Calls Tryz.prog 60 #[rs[k],rs'[k]] W (fun e w'=>e= .returned (.bool true)∧Below W.heap.size W w')) :=
  zh fun k h h' W hb=>Qf _ _ (m[k]'zo) W ((hF k h zo).later hb) ((hF' k h' zo).later hb)
 have HV:Hid (∀ k (h:k<rs.length),∃ a n c,rs[k]= .slice a n c):=zh fun k h=>by
  obtain ⟨a,c,e, -⟩:=(hF k h zo).read;exact ⟨_,_,_,e⟩
 have HV':Hid (∀ k (h:k<rs'.length),∃ a n c,rs'[k]= .slice a n c):=zh fun k h=>by
  obtain ⟨a,c,e, -⟩:=(hF' k h zo).read;exact ⟨_,_,_,e⟩
 have key:∀ (v:Value) (xs:List Value),Row w 29 v xs→∃ a cap,v= .slice a xs.length cap∧xs.length≤cap∧cap≤9223372036854775807∧∀ k (_:k<xs.length),∃ b off,a=some ⟨b,off,none⟩∧b<w.heap.size∧w.cell? ⟨b,off+k,none⟩=some xs[k]:=fun v xs h=>by
  rcases h.cases with ⟨rfl,rfl⟩|⟨b,off,cap,arr,rfl,k1,k2,k3,k4⟩
  ·exact ⟨none,0,rfl,by simp,by simp,fun k h=>by simp at h⟩
  ·exact ⟨_,_,rfl,k1,k2,fun k hk=>⟨b,off,rfl,k3.lt,(k3.cell _).trans (k4 k hk)⟩⟩
 obtain ⟨a,cap,rfl,hc1,hc2,hr1⟩:=key _ _ hR;obtain ⟨a',cap',rfl,hc1',hc2',hr2⟩:=key _ _ hR';have H1:=zh hr1;have H2:=zh hr2;clear key hR hR' hr1 hr2 hF hF' hm hm';have HL:=zh hll;rw [hll];rw [hll] at hc1';clear hll;go_enter Tryz.func59,Tryz.ntmps59
 go_wp2_with fail
 go_loopw [17] (fun iv wr=>∃ k:Nat,iv= .int .i64 (k:Int)∧k≤rs.length∧Below w.heap.size w wr) (fun iv _=>rs.length - (intOf iv).toNat)
 case atStart=>exact ⟨0,rfl,by omega,Below.refl _ _⟩
 case round =>
  obtain ⟨k,rfl,hk,hb⟩:=hrel
  rcases Nat.lt_or_ge k rs.length with hlt|hge
  ·have hlt':k<rs'.length:=by rw [HL.out];exact hlt
   obtain ⟨b,off,rfl,hbl,hx⟩:=H1.out k hlt;obtain ⟨b',off',rfl,nE,hy⟩:=H2.out k hlt';have HC:=zh (HS.out k hlt hlt');obtain ⟨x1,x2,x3,ex⟩:=HV.out k hlt;obtain ⟨y1,y2,y3,ey⟩:=HV'.out k hlt';rw [ex] at hx HC;rw [ey] at hy HC;have hc3:=(hb.cell (p:=⟨b,off+k,none⟩) hbl).trans hx;have hc4:=(hb.cell (p:=⟨b',off'+k,none⟩) nE).trans hy;clear hx hy ex ey;go_wp2_with fail
   refine (HC.out _ hb).mono ?_;rintro e w2 ⟨rfl,hb2⟩;go_wp2_with fail
   go_roundw
   case rel=>exact ⟨k+1,by go_num,by omega,Bt hb hb2⟩
   case measure=>exact zM
  ·obtain rfl:k=rs.length:=by omega
   go_wp2_with fail
   go_ret
   exact ⟨rfl,hb⟩
theorem Mr (v1 v2:Value) (m:List (List Fr)) (w:World) (h1:aN w v1 m) (h2:aN w v2 m) :
  Calls Tryz.prog 25 #[v1,v2] w (fun e w'=>e= .returned (.bool true)∧Below w.heap.size w w'):=by
 have H:=zh (Fq v1 v2 m w h1 h2);obtain ⟨rs,hR, -⟩:=h1;obtain ⟨rs',hR', -⟩:=h2;obtain ⟨a,cap,rfl, -⟩:=hR;obtain ⟨a',cap',rfl, -⟩:=hR';go_enter Tryz.func25,Tryz.ntmps25
 go_wp2_with fail
 refine H.out.mono ?_;rintro e w1 ⟨rfl,hb⟩;go_wp2_with fail
 go_ret
 exact ⟨rfl,hb⟩
end Go.Proofs.matrix
namespace Go.Proofs.matrix
open Go Go.RowKit Go.Shelf Go.SW Go.Num Go.Mem Go.Proofs Go.Dec Go.cK
attribute [local go_sem] Oper.semAt_some
theorem dQ {W W':World} (h:Below W.heap.size W W'):KeepsOthers W W' :=
 ⟨h.size,fun k o hk _=>(h.block k (Array.getElem?_eq_some_iff.1 hk).1).trans hk⟩
theorem dK {W W':World} {row:Option Nat} {b:Nat} {cs:Array Value} {T:TypeId} (h:au W b cs T) (hg:W.grownBy W' row) (hr:∀ r,row=some r→∃ o:Obj,W.heap[r]? =some o∧o.isCells=false):au W' b cs T:=by
 unfold au at *;rw [hg.block b (Array.getElem?_eq_some_iff.1 h).1 ?_]
 ·exact h
 ·intro e;obtain ⟨o,ho,hc⟩:=hr b e.symm;rw [h] at ho;cases ho
  cases hc
theorem Ka (b off cap n:Nat) (m:List (List Fr)) (rs:List Value) (a0:Option Addr) (n0 cap0:Nat) (w:World) (hn:rs.length=n) (h1:1≤n) (h4:n≤4) (hm:rs.length=m.length) (hR:Row w 29 (.slice (some ⟨b,off,none⟩) n cap) rs)
  (hc:w.cell? ⟨b,off,none⟩=some (.slice a0 n0 cap0)) (k1:1≤n0) (k4:n0≤4)
  (hF:∀ i (h:i<rs.length) (h':i<m.length),gX w 59 rs[i] m[i]) :
  Calls Tryz.prog 23 #[.slice (some ⟨b,off,none⟩) n cap] w fun e w'=>e= .returned (.int .i64 (if m.all (fun r=>r.length == n0&&gN r == 0) then 0 else 50))∧Below w.heap.size w w':=by
 have lb:b<w.heap.size:=by
  rcases hR.cases with ⟨h,_⟩|⟨b',off',cap',arr,h,_,_,h3,_⟩
  ·cases h
  ·simp only [Value.slice.injEq,Option.some.injEq,Addr.mk.injEq,and_true] at h;rw [h.1.1];exact h3.lt
 have lb1:b<w.heap.size+1:=by omega
 have q1:decide ((n:Int)<1)=false:=by simp;omega
 have q2:decide ((4:Int)<(n:Int))=false:=by simp;omega
 have q3:decide ((n0:Int)<1)=false:=by simp;omega
 have q4:decide ((4:Int)<(n0:Int))=false:=by simp;omega
 have h0n:0<n:=by omega
 have HR:=zh hR;have HF:=zh hF;have HM:=zh hm;have HN:=zh hn;clear hR hF hm hn;obtain ⟨z,Ez⟩:∃ y:Int,Hid ((if m.all (fun r=>r.length == n0&&gN r == 0) then 0 else 50)=y):=⟨_,zh rfl⟩;rw [Ez.out];refine (callsIn_wide (n:=3)).1 ?_;refine callsIn_of_wp_marks Tryz.func23 rfl trivial ?_ rfl;simp only [Tryz.ntmps23,List.size_toArray,List.length_cons,List.length_nil,Nat.reduceAdd,Nat.reduceSub,Array.replicate_succ,Array.replicate_zero,List.push_toArray,List.append_toArray,List.nil_append,List.cons_append]
 gi_wp2_with (refine ⟨trivial,?_⟩;gi_at_call 58;refine (ug Fence.wide 2 trivial rfl _ _ _ _).mono ?_;rintro e w' ⟨rfl,rfl⟩)
 have hB0:Below w.heap.size w (((w.alloc (.cells #[.slice (some ⟨b,off,none⟩) n cap] 23)).alloc (.cells #[.int .i64 0] 33)).alloc (.cells #[.slice (some ⟨b,off,none⟩) n cap] 23)):=ah;have hbx0:au (((w.alloc (.cells #[.slice (some ⟨b,off,none⟩) n cap] 23)).alloc (.cells #[.int .i64 0] 33)).alloc (.cells #[.slice (some ⟨b,off,none⟩) n cap] 23)) w.heap.size #[.slice (some ⟨b,off,none⟩) n cap] 23:=aT;have xW:au (((w.alloc (.cells #[.slice (some ⟨b,off,none⟩) n cap] 23)).alloc (.cells #[.int .i64 0] 33)).alloc (.cells #[.slice (some ⟨b,off,none⟩) n cap] 23)) (w.heap.size+1) #[.int .i64 0] 33:=aT;have xV:au (((w.alloc (.cells #[.slice (some ⟨b,off,none⟩) n cap] 23)).alloc (.cells #[.int .i64 0] 33)).alloc (.cells #[.slice (some ⟨b,off,none⟩) n cap] 23)) (w.heap.size+1+1) #[.slice (some ⟨b,off,none⟩) n cap] 23:=aT
 refine wpIn_rangeFunc_ownF (α:=Fin rs.length) rfl zo (gf:=115) (lb:=#[.pointer (some ⟨w.heap.size+1+1,0,none⟩)]) rfl trivial (enters_of Tryz.func115 zk rfl)
  (nK Fence.wide 2 trivial rfl zo (w.heap.size+1+1) w.heap.size _ rs w _ xV.lt hB0.size ((xV.cell 0).trans rfl) HR.out (Nat.le_refl _) hB0) belowK_t (belowK_b hB0.size) (Below.refl _ _) (fun _=>rfl)
  (fun pre W=>(Hid (∀ x∈pre,((m.getD x.1 []).length == n0&&gN (m.getD x.1 []) == 0)=true)∧au W w.heap.size #[.slice (some ⟨b,off,none⟩) n cap] 23∧au W (w.heap.size+1) #[.int .i64 0] 33)∧Below w.heap.size w W)
  (fun c pre W=>(c= .ret∧Hid (∃ x:Fin rs.length,((m.getD x.1 []).length == n0&&gN (m.getD x.1 []) == 0)=false)∧au W (w.heap.size+1) #[.int .i64 50] 33)∧Below w.heap.size w W)
  (OwnFrom.and (Own.from (fun s A B row hs hg hr=>⟨hs.1,dK hs.2.1 hg hr,dK hs.2.2 hg hr⟩) _) (ownFrom_below (Nat.le_refl _) hB0.size))
  (fun c=>OwnFrom.and (Own.from (fun s A B row hs hg hr=>⟨hs.1,hs.2.1,dK hs.2.2 hg hr⟩) _) (ownFrom_below (Nat.le_refl _) hB0.size))
  ⟨⟨zh zi,hbx0,xW⟩,hB0⟩ ?a1 ?assign ?body ?done ?stop
 case assign =>
  intro l x W K hK;unfold enc
  gi_wp2
  exact hK
 case body =>
  rintro l pre x W ⟨⟨hp,hb0,hb1⟩,hB⟩ _;have hxm:x.1<m.length:=HM.out ▸ x.2;have hgd:m.getD x.1 []=m[x.1]:=by simp [hxm]
  have hfr:=HF.out x.1 x.2 hxm;obtain ⟨a',cap',hre,k5,k6, -⟩:=hfr.read;have KJ:=zh (hfr.later hB);have cm:=(hB.cell (p:=⟨b,off,none⟩) lb).trans hc;have c0:=hb0.cell;have f1:=hb1.free;have c1:=hb1.cell;have e5:∀ y,m.getD x.1 []=y→((y.length == n0&&gN y == 0)=((m.getD x.1 []).length == n0&&gN (m.getD x.1 []) == 0)):=fun y h=>by rw [h]
  have HE5:=zh (e5 _ hgd);clear hfr e5 hgd hc;generalize rs[x.1]=rx at *;subst hre;generalize hmx:m[x.1]=mx at *;have HMX:=zh hmx;clear hmx
  by_cases hl:mx.length=n0
  ·have b1:((mx.length:Int) != (n0:Int))=false:=by simp [hl]
   have hch:gN mx=0∨gN mx=20:=by unfold gN;split<;>simp
   have HL:=zh hl;have CW:=zh (fun W h=>iX (.slice a' mx.length cap') mx 59 W h);clear hl
   rcases hch with hch|hch
   ·have HCH:=zh hch;clear hch;rw [HCH.out] at CW
    gi_wp2_with (refine ⟨trivial,?_⟩;gi_at_call 54;refine (CallsIn.inRound l (callsIn_wide.2 (CW.out _ KJ.out))).mono ?_;rintro e w1 ⟨rfl,hc1⟩)
    refine ⟨dQ hc1,hc1.mono hB.size,⟨⟨zh fun y hy=>?_,hb0.later hc1,hb1.later hc1⟩,hB.trans (hc1.mono hB.size)⟩⟩
    rcases List.mem_append.1 hy with h|h
    ·exact hp.out y h
    ·rw [List.mem_singleton] at h;subst h;rw [← HE5.out,HCH.out,HL.out];simp
   ·have HCH:=zh hch;clear hch;rw [HCH.out] at CW
    gi_wp2_with (refine ⟨trivial,?_⟩;gi_at_call 54;refine (CallsIn.inRound l (callsIn_wide.2 (CW.out _ KJ.out))).mono ?_;rintro e w1 ⟨rfl,hc1⟩;have hb2:=hb1.later hc1;have c2:=hb2.cell;have f2:=hb2.free)
    refine ⟨(dQ hc1).trans (KeepsOthers.setCell _ _ _),⟨⟨rfl,zh ⟨x,?_⟩,hb2.set 0 _⟩,(hB.trans (hc1.mono hB.size)).setCell zi _⟩⟩;rw [← HE5.out,HCH.out,HL.out];simp
  ·have b1:((mx.length:Int) != (n0:Int))=true:=by simp;omega
   have HL:=zh hl;clear hl
   gi_wp2
   refine ⟨trivial,?_⟩
   gi_wp2
   refine ⟨KeepsOthers.setCell _ _ _,⟨⟨rfl,zh ⟨x,?_⟩,hb1.set 0 _⟩,hB.setCell zi _⟩⟩;rw [← HE5.out];have:=HL.out;simp [this]
 case done =>
  rintro D ys W hD rfl ⟨⟨hp,hb0,hb1⟩,hB⟩ hK;have c1:=hb1.cell;have f1:=hb1.free
  have hall:m.all (fun r=>r.length == n0&&gN r == 0)=true:=by
   rw [List.all_eq_true];intro r hr;obtain ⟨i,hi,rfl⟩:=List.getElem_of_mem hr;have h2:i<rs.length:=by rw [HM.out];exact hi
   have:=hp.out ⟨i,h2⟩ (by unfold upto;rw [List.mem_ofFn];exact ⟨⟨i,h2⟩,rfl⟩)
   simpa [hi] using this
  have hz:z=0:=by rw [← Ez.out,if_pos hall]
  have HZ:=zh hz;clear hall hz
  gi_wp2
  have hb2:=hb1.set 0 (.int .i64 0);have hK':=(KeepsOthers.setCell W ⟨w.heap.size+1,0,none⟩ (.int .i64 0)).same D _ hK rfl;refine ⟨by simp,.inl ⟨_,_,rfl,run_takeDeferred hK',?_⟩⟩;have hb3:=dK hb2 (grownBy_putObj' _ D (.deferred none)) (fun r e=>by cases e;exact ⟨_,hK',rfl⟩);have nT:=hb3.cell 0;refine ⟨.int .i64 0,?_,by rw [HZ.out],(hB.setCell (p:=⟨w.heap.size+1,0,none⟩) zi _).trans (belowK_b (w:=w) (Nat.le_refl _) _ D _ _ (by simp at hD;omega) hK' rfl rfl)⟩;simp [results,Tryz.f23,go_sem,nT]
 case stop =>
  rintro D c pre W hD hpre ⟨⟨rfl,hin,hb1⟩,hB⟩ hK
  have hz:z=50:=by
   rw [← Ez.out,if_neg];intro h;obtain ⟨x,hx⟩:=hin.out;have hxm:x.1<m.length:=HM.out ▸ x.2;have h2:=List.all_eq_true.1 h m[x.1] (List.getElem_mem _);have hgd:m.getD x.1 []=m[x.1]:=by simp [hxm]
   rw [hgd,h2] at hx;cases hx
  have HZ:=zh hz;clear hz
  gi_wp2
  refine ⟨by simp,.inl ⟨_,_,rfl,run_takeDeferred hK,?_⟩⟩;have hb3:=dK hb1 (grownBy_putObj' _ D (.deferred none)) (fun r e=>by cases e;exact ⟨_,hK,rfl⟩);have nT:=hb3.cell 0;refine ⟨.int .i64 50,?_,by rw [HZ.out],hB.trans (belowK_b (w:=w) (Nat.le_refl _) W D _ _ (by simp at hD;omega) hK rfl rfl)⟩;simp [results,Tryz.f23,go_sem,nT]
end Go.Proofs.matrix
namespace Go.Proofs.matrix
open Go Go.RowKit Go.SW Go.Num Go.Mem Go.Proofs Go.Dec Go.cK
theorem Ij (a:Option Addr) (n cap:Nat) (w:World) (h:n<1∨4<n) :
  Calls Tryz.prog 23 #[.slice a n cap] w fun e w'=>e= .returned (.int .i64 50)∧Below w.heap.size w w':=by
 rcases h with h|h
 ·have q1:decide ((n:Int)<1)=true:=by simp;omega
  clear h;go_enter Tryz.func23,Tryz.ntmps23
  go_wp2_with fail
  exact bodyPost_ret (v:=.int .i64 50) (by simp [results,Tryz.results23,go_sem]) rfl ⟨rfl,ah⟩
 ·have q1:decide ((n:Int)<1)=false:=by simp;omega
  have q2:decide ((4:Int)<(n:Int))=true:=by simp;omega
  clear h;go_enter Tryz.func23,Tryz.ntmps23
  go_wp2_with fail
  exact bodyPost_ret (v:=.int .i64 50) (by simp [results,Tryz.results23,go_sem]) rfl ⟨rfl,ah⟩
theorem Ii (b off cap n:Nat) (a0:Option Addr) (n0 cap0:Nat) (w:World) (h1:1≤n) (h4:n≤4) (lb:b<w.heap.size)
  (hc:w.cell? ⟨b,off,none⟩=some (.slice a0 n0 cap0)) (h:n0<1∨4<n0) :
  Calls Tryz.prog 23 #[.slice (some ⟨b,off,none⟩) n cap] w fun e w'=>e= .returned (.int .i64 50)∧Below w.heap.size w w':=by
 have q1:decide ((n:Int)<1)=false:=by simp;omega
 have q2:decide ((4:Int)<(n:Int))=false:=by simp;omega
 have lb1:b<w.heap.size+1:=by omega
 have h0n:0<n:=by omega
 rcases h with h|h
 ·have q3:decide ((n0:Int)<1)=true:=by simp;omega
  clear h;go_enter Tryz.func23,Tryz.ntmps23
  go_wp2_with fail
  exact bodyPost_ret (v:=.int .i64 50) (by simp [results,Tryz.results23,go_sem]) rfl ⟨rfl,ah⟩
 ·have q3:decide ((n0:Int)<1)=false:=by simp;omega
  have q4:decide ((4:Int)<(n0:Int))=true:=by simp;omega
  clear h;go_enter Tryz.func23,Tryz.ntmps23
  go_wp2_with fail
  exact bodyPost_ret (v:=.int .i64 50) (by simp [results,Tryz.results23,go_sem]) rfl ⟨rfl,ah⟩
theorem dw (v:Value) (m:List (List Fr)) (w:World) (h:aN w v m) :
  Calls Tryz.prog 23 #[v] w fun e w'=>e= .returned (.int .i64 (gZ m))∧Below w.heap.size w w':=by
 obtain ⟨rs,hR,hm,hF⟩:=h;have hR':=hR;obtain ⟨a,cap,rfl, -⟩:=hR
 by_cases hlen:rs.length<1∨4<rs.length
 ·have e:gZ m=50:=by
   unfold gZ jQ;rw [← hm,if_neg];intro h;simp only [Bool.and_eq_true,decide_eq_true_eq] at h;omega
  rw [e];exact Ij _ _ _ w hlen
 ·have h1:1≤rs.length:=by omega
  have h4:rs.length≤4:=by omega
  have h0:0<m.length:=by omega
  rcases hR'.cases with ⟨_,h⟩|⟨b,off,cap',arr,hv,k1,k2,k3,k4⟩
  ·rw [h] at h1;simp at h1
  ·have h0r:0<rs.length:=by omega
   obtain ⟨a0,cap0,e0, -⟩:=(hF 0 h0r h0).read
   have hc:w.cell? ⟨b,off,none⟩=some (.slice a0 m[0].length cap0):=by
    have:=(k3.cell (off+0)).trans (k4 0 h0r);rw [e0] at this;exact this
   have hhd:m.headD []=m[0]:=by cases m with|nil=>simp at h0|cons x t=>rfl
   rw [hv] at hR' ⊢
   by_cases hw:m[0].length<1∨4<m[0].length
   ·have e:gZ m=50:=by
     unfold gZ jQ;rw [hhd,if_neg];intro h;simp only [Bool.and_eq_true,decide_eq_true_eq] at h;omega
    rw [e];exact Ii b off cap' _ a0 _ cap0 w h1 h4 k3.lt hc hw
   ·have e:gZ m=if m.all (fun r=>r.length == m[0].length&&gN r == 0) then 0 else 50:=by
     unfold gZ jQ;rw [hhd];have e1:decide (1≤m.length)=true:=by simp;omega
     have e2:decide (m.length≤4)=true:=by simp;omega
     have e3:decide (1≤m[0].length)=true:=by simp;omega
     have e4:decide (m[0].length≤4)=true:=by simp;omega
     rw [e1,e2,e3,e4];simp only [Bool.true_and]
    rw [e];exact Ka b off cap' rs.length m rs a0 m[0].length cap0 w rfl h1 h4 hm hR' hc zo zo hF
theorem Rs:(Tryz.prog.info? 29).map (fun i=>(i.zero,i.size,i.bytes))=some (some (.slice none 0 0),1,24):=by kernel_rfl
theorem tC:(Tryz.prog.info? 59).map (fun i=>(i.zero,i.size,i.bytes))=some (some (.agg #[.string ⟨#[]⟩,.string ⟨#[]⟩]),2,32):=by kernel_rfl
theorem BZ (vl:Value) (l:List Fr) (T:TypeId) (w:World) (hl:gX w T vl l) (h1:1≤l.length) (h4:l.length≤4) (hc:gN l=0) :
  Calls Tryz.prog 18 #[vl] w (aV w 0 (kT l)):=by
 obtain ⟨im,im1,im2,im3,im4⟩:=info_parts Rs;obtain ⟨i0,hi,hz0,hz1,hz2⟩:=info_parts tC;have CW:=zh (fun w' hb=>iX vl l T w' (hl.later hb));rw [hc] at CW;obtain ⟨al,ab0,rfl,RY,Od,hread⟩:=hl.read
 have Kw:Hid (∀ r,r<l.length→∃ b off,al=some ⟨b,off,none⟩∧b<w.heap.size∧w.cell? ⟨b,off+r*2,none⟩=some (.string (l.getD r Fr.no).n)∧w.cell? ⟨b,off+r*2+1,none⟩=some (.string (l.getD r Fr.no).d)):=zh fun r hr=>by
  obtain ⟨b,off,k1,k2,k3,k4⟩:=hread r hr;have e:l.getD r Fr.no=l[r]:=by simp [hr]
  rw [e];exact ⟨b,off,k1,k2,k3,k4⟩
 obtain ⟨n,hn⟩:∃ n,l.length=n:=⟨_,rfl⟩
 have HDR:Hid (∀ r c,c<n→(lI l r).getD c Fr.no=if c=r then l.getD r Fr.no else Fr.zero):=zh fun r c hc=>by
  unfold lI;simp [hn,hc]
 have Bc:Hid (∀ r,(lI l r).length=n):=zh fun r=>by simp [lI,hn]
 have HDM:Hid ((kT l).length=n∧∀ r,r<n→(kT l).getD r []=lI l r):=zh ⟨by simp [kT,hn],fun r hr=>by simp [kT,hn,hr]⟩;rw [hn] at h1 h4 Kw RY CW ⊢;have q1:decide ((n:Int)<1)=false:=by simp;omega
 have q2:decide ((4:Int)<(n:Int))=false:=by simp;omega
 clear hl hc hread hn;go_enter Tryz.func18,Tryz.ntmps18
 go_wp2_with fail
 refine (CW.out _ (Below.refl _ _)).mono ?_;rintro e v1 ⟨rfl,hc1⟩;go_wp2_with (at_make;refine wpList_make_full _ rfl _ _ 23 rfl w.heap.size 29 im (.slice none 0 0) 1 Tryz.underlying23 im1 im2 im3 _ _ _ _ n rfl rfl zo zo (by rw [im4];omega) (by unfold maxLen;omega) hc1.size ?_)
 intro w2 hown hgrow;have hb2:Below w.heap.size w w2:=Bt hc1 ((Below.refl _ _).grown hgrow (Nat.le_refl _) (fun k hk=>by cases hk));have HM:=zh (fK.start (f:=lI l) hown);obtain ⟨M,EM⟩:∃ y:Nat,Hid (v1.heap.size=y):=⟨_,zh rfl⟩;rw [EM.out] at HM ⊢;have hMw:w.heap.size≤M:=by rw [← EM.out];exact hc1.size
 clear hown hgrow hc1 EM;go_wp2_with fail
 go_loopw [26] (fun iv wr=>∃ r:Nat,iv= .int .i64 (r:Int)∧r≤n∧Hid (fK wr M n r (lI l))∧Below w.heap.size w wr) (fun iv _=>n - (intOf iv).toNat)
 case atStart=>exact ⟨0,rfl,by omega,HM,hb2⟩
 case round =>
  clear HM hb2;obtain ⟨r,rfl,hr,HM,hb⟩:=hrel
  rcases Nat.lt_or_ge r n with hlt|hge
  ·obtain ⟨wo,hwo⟩:∃ y,y=wr:=⟨_,rfl⟩;subst hwo;have hlt2:(r:Int)<(n:Int):=by omega
   have lM:=HM.out.lt;go_wp2_with (at_make;refine wpList_make_full _ rfl _ _ 29 rfl wo.heap.size 59 i0 (.agg #[.string ⟨#[]⟩,.string ⟨#[]⟩]) 2 Tryz.underlying29 hi hz0 hz1 _ _ _ _ n rfl rfl zo zo (by rw [hz2];omega) (by unfold maxLen;omega) (Nat.le_refl _) ?_)
   intro w3 hown hgrow;have hb3:Below wo.heap.size wo w3:=(Below.refl _ _).grown hgrow (Nat.le_refl _) (fun k hk=>by cases hk);have HF:=zh (Fill.start (ok:=vN (fun c=>(lI l r).getD c Fr.no)) hown);obtain ⟨G,EG⟩:∃ y:Nat,Hid (wo.heap.size=y):=⟨_,zh rfl⟩;rw [EG.out] at HF ⊢;have hGw:wo.heap.size≤G:=by rw [EG.out];exact Nat.le_refl _
   have Xd:=HM.out.later hb3;obtain ⟨⟨y1,BO⟩,fy⟩:=Xd.cell hlt;have lM3:=Xd.lt;have isM:=Xd.rX;obtain ⟨rZ,bM,hsz, -⟩:=Xd;have hrs:r<rZ.size:=by omega
   have Ut:=zh bM;have lG:=HF.out.lt;clear hown hgrow;have hGM:G≠M:=by omega
   have Ul:M≠G:=by omega
   have Uk:fM wo (w3.setCell ⟨M,r,none⟩ (.slice (some ⟨G,0,none⟩) n n)) M:=((fM.refl wo M).below hb3).set _ _;have HF4:=zh (((HF.out.Av (f':=fun _=>Fr.zero) (fun i hi=>by omega)).other (a:=⟨M,r,none⟩) (.slice (some ⟨G,0,none⟩) n n) hGM));have HB4:=zh (bM.set r (.slice (some ⟨G,0,none⟩) n n));go_wp2_with fail
   clear BO fy lM3 isM lG HF hGw
   go_loopw [37] (fun iv wi=>∃ c:Nat,iv= .int .i64 (c:Int)∧c≤n∧Hid (Fill wi G 59 n c (vN fun _=>Fr.zero))∧Hid (au wi M (rZ.setIfInBounds r (.slice (some ⟨G,0,none⟩) n n)) 29)∧Hid (fM wo wi M)) (fun iv _=>n - (intOf iv).toNat)
   case atStart=>exact ⟨0,rfl,by omega,HF4,HB4,zh Uk⟩
   case round =>
    clear HF4 HB4 Uk bM;obtain ⟨c,rfl,hcn,HF,HB,HN⟩:=hrel;have cM:=HB.out.cell r;rw [Array.getElem?_setIfInBounds,if_pos rfl,if_pos hrs] at cM;have lMi:=HB.out.lt;have lGi:=HF.out.lt
    rcases Nat.lt_or_ge c n with hcl|hcl
    ·obtain ⟨⟨z1,cz1⟩,⟨z2,cz2⟩,fz⟩:=HF.out.cells hcl;have Od:(c:Int)<(n:Int):=by omega
     go_wp2_with fail
     go_roundw
     case rel=>exact ⟨c+1,by go_num,by omega,zh (HF.out.step hcl (fun _ _ _ h=>h) ⟨rfl,rfl⟩),zh ((HB.out.setOther _ Ul).setOther _ Ul),zh ((HN.out.gG (by rw [EG.out];exact Nat.le_refl _) _ _).gG (by rw [EG.out];exact Nat.le_refl _) _ _)⟩
     case measure=>exact zM
    ·obtain rfl:c=n:=by omega
     obtain ⟨b,off,rfl,lb,cl1,cl2⟩:=Kw.out r hlt;have hbi:Below w.heap.size w wr:=HN.out.toBelow hb hMw;have ci1:=(hbi.cell (p:=⟨b,off+r*2,none⟩) lb).trans cl1;have ci2:=(hbi.cell (p:=⟨b,off+r*2+1,none⟩) lb).trans cl2;clear cl1 cl2;go_wp2_with fail
     refine aD [(.pure,0),(.pure,1),(.pure,2),(.read,3),(.pure,4),(.pure,5),(.pure,6),(.pure,7),(.read,8),(.pure,9),(.fin,10)] zk zk zR zP ?_;refine zV ?_;refine aL [_] rfl (fun w9 nU=>?_);have ZX:Below wr.heap.size wr w9:=ah;replace HF:=zh (HF.out.zI ZX);replace HB:=zh (HB.out.later ZX);replace HN:=zh (HN.out.below ZX);obtain ⟨⟨z1,cz1⟩,⟨z2,cz2⟩,fz⟩:=HF.out.cells hlt;go_wp2_with fail
     go_roundw
     case rel =>
      have hN2:=(HN.out.gG (P:=G) (by rw [EG.out];exact Nat.le_refl _) (r*2) (.string (l.getD r Fr.no).n)).gG (P:=G) (by rw [EG.out];exact Nat.le_refl _) (r*2+1) (.string (l.getD r Fr.no).d);refine ⟨r+1,by go_num,by omega,zh (HM.out.step (v:=.slice (some ⟨G,0,none⟩) c c) hlt hN2 (fun arr hA=>?_) ?_),hN2.toBelow hb hMw⟩
      ·have hAM:arr=rZ:=cK.au.uniq (hA.later hb3) Ut.out;rw [hAM];exact (HB.out.setOther _ Ul).setOther _ Ul
      ·refine Fill.Sc ((HF.out.put hlt).Av fun i hi=>?_) (Bc.out r) zo;exact (HDR.out r i hi).symm
     case measure=>exact zM
  ·obtain rfl:r=n:=by omega
   have hmv:aN wr (.slice (some ⟨M,0,none⟩) r r) (kT l):=by
    obtain ⟨e1,e2⟩:=HDM.out;have hM:=HM.out
    have:aN wr (.slice (some ⟨M,0,none⟩) (kT l).length (kT l).length) (kT l):=by
     refine fK.JF ?_ zo;rw [e1];obtain ⟨arr,k1,k2,k3⟩:=hM;refine ⟨arr,k1,k2,fun i hi=>?_⟩
     show ∃ v,arr[i]? =some v∧gX wr 59 v ((kT l).getD i [])
     rw [e2 i hi];exact k3 i hi
    rw [e1] at this;exact this
   have HMV:=zh hmv;clear hmv;go_wp2_with fail
   go_ret2
   exact aV.yes hb HMV.out
theorem Fw (a:Option Addr) (n cap:Nat) (m:List (List Fr)) (w:World) (h:n<1∨4<n) :
  Calls Tryz.prog 18 #[.slice a n cap] w (aV w 2 m):=by
 rcases h with h|h
 ·have q1:decide ((n:Int)<1)=true:=by simp;omega
  clear h;go_enter Tryz.func18,Tryz.ntmps18
  go_wp2_with fail
  go_ret2
  exact aV.no ah zd
 ·have q1:decide ((n:Int)<1)=false:=by simp;omega
  have q2:decide ((4:Int)<(n:Int))=true:=by simp;omega
  clear h;go_enter Tryz.func18,Tryz.ntmps18
  go_wp2_with fail
  go_ret2
  exact aV.no ah zd
theorem Fx (vl:Value) (l:List Fr) (m:List (List Fr)) (T:TypeId) (w:World) (hl:gX w T vl l) (h1:1≤l.length) (h4:l.length≤4) (hc:gN l=20) :
  Calls Tryz.prog 18 #[vl] w (aV w 20 m):=by
 have CW:=zh (fun w' hb=>iX vl l T w' (hl.later hb));rw [hc] at CW;obtain ⟨al,ab0,rfl, -⟩:=hl.read;obtain ⟨n,hn⟩:∃ n,l.length=n:=⟨_,rfl⟩;rw [hn] at h1 h4 CW ⊢;have q1:decide ((n:Int)<1)=false:=by simp;omega
 have q2:decide ((4:Int)<(n:Int))=false:=by simp;omega
 clear hl hc hn;go_enter Tryz.func18,Tryz.ntmps18
 go_wp2_with fail
 refine (CW.out _ (Below.refl _ _)).mono ?_;rintro e v1 ⟨rfl,hc1⟩;go_wp2_with fail
 go_ret2
 exact aV.no hc1 zd
theorem xP (vl:Value) (l:List Fr) (T:TypeId) (w:World) (hl:gX w T vl l) :
  Calls Tryz.prog 18 #[vl] w (aV w (Ic l) (kT l)):=by
 unfold Ic
 by_cases h:l.length<1∨4<l.length
 ·rw [if_pos h];obtain ⟨al,ab0,rfl, -⟩:=hl.read;exact Fw _ _ _ _ w h
 ·rw [if_neg h];have hc:gN l=0∨gN l=20:=by unfold gN;split<;>simp
  rcases hc with hc|hc
  ·rw [hc];exact BZ vl l T w hl zo zo hc
  ·rw [hc];exact Fx vl l _ T w hl zo zo hc
theorem Fg (n:Int) (m:List (List Fr)) (w:World) (h:n<1∨4<n) :
  Calls Tryz.prog 13 #[.int .i64 n] w (aV w 2 m):=by
 rcases h with h|h
 ·have q1:decide (n<1)=true:=by simp;omega
  clear h;go_enter Tryz.func13,Tryz.ntmps13
  go_wp2_with fail
  go_ret2
  exact aV.no ah zd
 ·have q1:decide (n<1)=false:=by simp;omega
  have q2:decide ((4:Int)<n)=true:=by simp;omega
  clear h;go_enter Tryz.func13,Tryz.ntmps13
  go_wp2_with fail
  go_ret2
  exact aV.no ah zd
theorem BX (n:Nat) (w:World) (h1:1≤n) (h4:n≤4) :
  Calls Tryz.prog 13 #[.int .i64 (n:Int)] w (aV w 0 (kT (List.replicate n Fr.one))):=by
 obtain ⟨i0,hi,hz0,hz1,hz2⟩:=info_parts tC;have q1:decide ((n:Int)<1)=false:=by simp;omega
 have q2:decide ((4:Int)<(n:Int))=false:=by simp;omega
 have HDG:Hid (∀ v w',gX w' 59 v (List.replicate n Fr.one)→Calls Tryz.prog 18 #[v] w' (aV w' 0 (kT (List.replicate n Fr.one)))):=zh fun v w' h=>by
  have:=xP v _ _ w' h
  have e:Ic (List.replicate n Fr.one)=0:=by
   unfold Ic;rw [List.length_replicate,if_neg zo];unfold gN;rw [if_pos];rw [List.all_eq_true];intro a ha;obtain ⟨-, rfl⟩:=List.mem_replicate.1 ha
   decide+kernel
  rw [e] at this;exact this
 go_enter Tryz.func13,Tryz.ntmps13
 go_wp2_with (at_make;refine wpList_make_full _ rfl _ _ 29 rfl w.heap.size 59 i0 (.agg #[.string ⟨#[]⟩,.string ⟨#[]⟩]) 2 Tryz.underlying29 hi hz0 hz1 _ _ _ _ n rfl rfl zo zo (by rw [hz2];omega) (by unfold maxLen;omega) (Nat.le_refl _) ?_)
 intro w3 hown hgrow;have hb3:Below w.heap.size w w3:=(Below.refl _ _).grown hgrow (Nat.le_refl _) (fun k hk=>by cases hk);have HF:=zh (Fill.start (ok:=vN (fun _=>Fr.one)) hown);clear hown hgrow;go_wp2_with fail
 go_loopw [16] (fun iv wr=>∃ c:Nat,iv= .int .i64 (c:Int)∧c≤n∧Hid (Fill wr w.heap.size 59 n c (vN fun _=>Fr.one))∧Below w.heap.size w wr) (fun iv _=>n - (intOf iv).toNat)
 case atStart=>exact ⟨0,rfl,by omega,HF,hb3⟩
 case round =>
  clear HF hb3;obtain ⟨c,rfl,hcn,HF,hb⟩:=hrel;have lG:=HF.out.lt
  rcases Nat.lt_or_ge c n with hcl|hcl
  ·obtain ⟨⟨z1,cz1⟩,⟨z2,cz2⟩,fz⟩:=HF.out.cells hcl;have Od:(c:Int)<(n:Int):=by omega
   go_wp2_with fail
   go_roundw
   case rel=>exact ⟨c+1,by go_num,by omega,zh (HF.out.step hcl (fun _ _ _ h=>h) ⟨rfl,rfl⟩),(hb.setCell zi _).setCell zi _⟩
   case measure=>exact zM
  ·obtain rfl:c=n:=by omega
   have hfr:gX wr 59 (.slice (some ⟨w.heap.size,0,none⟩) c c) (List.replicate c Fr.one):=by
    refine Fill.Sc (HF.out.Av fun i hi=>?_) zi zo;simp [hi]
   have KJ:=zh hfr;clear hfr;go_wp2_with fail
   refine (HDG.out _ _ KJ.out).mono ?_;rintro e w5 ⟨hb5,v,rfl,hy, -⟩;have HV:=zh (hy rfl);clear hy;go_wp2_with fail
   go_ret2
   exact aV.yes (Bt hb hb5) HV.out
theorem xO (n:Int) (w:World):Calls Tryz.prog 13 #[.int .i64 n] w (aV w (idE n) (kT (List.replicate n.toNat Fr.one))):=by
 unfold idE
 by_cases h:n<1∨4<n
 ·rw [if_pos h];exact Fg n _ w h
 ·rw [if_neg h];have e:n=((n.toNat:Nat):Int):=by omega
  have:=BX n.toNat w zo zo;rw [← e] at this;exact this
end Go.Proofs.matrix
namespace Go.Proofs.matrix
open Go Go.RowKit Go.SW Go.Num Go.Mem Go.Proofs Go.Dec
theorem dx (m:Value) (n:Nat) (b:Bool) (w:World) (h:aK w m n) :
  Calls Tryz.prog 66 #[m,.bool b] w (fun e w'=>∃ v,e= .returned v∧Below w.heap.size w w'∧aS w' v (gB n b)):=ad8
theorem d9 (z:Int) (hz:(Lib.decDigits z.natAbs).length≤600) (w:World) :
  Calls Tryz.prog 131 #[mW z] w (fun e w'=>∃ v,e= .returned v∧Below w.heap.size w w'∧aS w' v z):=ad7
theorem nP (v:Value) (z:Int) (w:World) (h:aS w v z) :
  Calls Tryz.prog 74 #[v] w (fun e w'=>∃ v,e= .returned v∧Below w.heap.size w w'∧aS w' v (-z)):=ad6
theorem mo (v u:Value) (z:Int) (n:Nat) (w:World) (h:aS w v z) (hu:aK w u n) (hz:sz 1000000000 z.natAbs≤549755813888) (hn:sz 1000000000 n≤549755813888) :
  Calls Tryz.prog 79 #[v,u] w (fun e w'=>∃ v,e= .returned v∧Below w.heap.size w w'∧aS w' v (z*n)):=ad5
theorem Gc (pa pb:Option Addr) (l m ca cb:Nat) (z y:Int) (b:Bool) (w:World) (h:aK w (.slice pa l ca) z.natAbs) (h2:aK w (.slice pb m cb) y.natAbs) (hz:decide (z<0)=b) (hy:decide (y<0)=b) (kz:sz 1000000000 z.natAbs≤549755813888) (ky:sz 1000000000 y.natAbs≤549755813888) :
  Calls Tryz.prog 126 #[.agg #[.slice pa l ca,.bool b],.agg #[.slice pb m cb,.bool b]] w (fun e w'=>∃ v,e= .returned v∧Below w.heap.size w w'∧aS w' v (z+y)):=ad4
theorem Gf (pa pb:Option Addr) (l m ca cb:Nat) (z y:Int) (b:Bool) (w:World) (h:aK w (.slice pa l ca) z.natAbs) (h2:aK w (.slice pb m cb) y.natAbs) (hz:decide (z<0)=b) (hy:decide (y<0)= !b) (kz:sz 1000000000 z.natAbs≤549755813888) (ky:sz 1000000000 y.natAbs≤549755813888) :
  Calls Tryz.prog 126 #[.agg #[.slice pa l ca,.bool b],.agg #[.slice pb m cb,.bool !b]] w (fun e w'=>∃ v,e= .returned v∧Below w.heap.size w w'∧aS w' v (z+y)):=ad3
theorem sQ (v u:Value) (z y:Int) (w:World) (h:aS w v z) (h2:aS w u y) (kz:sz 1000000000 z.natAbs≤549755813888) (ky:sz 1000000000 y.natAbs≤549755813888) :
  Calls Tryz.prog 126 #[v,u] w (fun e w'=>∃ v,e= .returned v∧Below w.heap.size w w'∧aS w' v (z+y)):=ad2
theorem yg (v:Value) (z:Int) (w:World) (h:aS w v z) (kz:sz 1000000000 z.natAbs≤1099511627776) (ht:oO.Pow w) :
  Calls Tryz.prog 120 #[v] w (fun e w'=>e= .returned (mW z)∧Below w.heap.size w w'):=ad1
theorem mR (v u:Value) (z y:Int) (w:World) (h:aS w v z) (h2:aS w u y) (kz:sz 1000000000 z.natAbs≤549755813888) (ky:sz 1000000000 y.natAbs≤549755813888) :
  Calls Tryz.prog 124 #[v,u] w (fun e w'=>∃ v,e= .returned v∧Below w.heap.size w w'∧aS w' v (z*y)):=by
 obtain ⟨IW,lH,I5,rfl,H⟩:=h;replace H:=zh H;obtain ⟨am2,lH2,at6,rfl,H2⟩:=h2;replace H2:=zh H2;have KZ:=zh kz;have KY:=zh ky;clear kz ky;go_enter Tryz.func124,Tryz.ntmps124
 go_wp2_with fail
 refine aD [(.pure,0),(.read,1),(.pure,2),(.read,3),(.pure,5),(.read,6),(.pure,7),(.read,8),(.pure,9),(.ext,4),(.ext,10),(.fin,11)] zk zk zR zP ?_;refine zV ?_;refine aG rfl rfl (fun w1 hb1 J hJ=>?_);go_simp;have BR:=au.later (au.drew (au.at2 _ _ _ _ _)) hb1;have bK:=BR.cell;have bL:=BR.free;refine (iD _ _ z.natAbs y.natAbs _ aI aI (Nat.le_trans KZ.out zo) (Nat.le_trans KY.out zo)).mono ?_;rintro e v1 ⟨v,rfl,hc1,hv⟩;obtain ⟨al9,lHS,as9,rfl⟩:=hv.slice;have HS:=zh hv;clear hv;replace BR:=au.later (BR) hc1;replace bK:=BR.cell;replace bL:=BR.free;refine hJ _ _ hc1 ?_;clear hJ J;refine aG rfl rfl (fun w2 hb2 J hJ=>?_);go_simp;replace BR:=au.later (BR) hb2;replace bK:=BR.cell;replace bL:=BR.free;refine (dx _ (z.natAbs*y.natAbs) _ _ aI).mono ?_;rintro e v2 ⟨v,rfl,hc2,hv⟩;obtain ⟨Qu,lHT,Tg,rfl,HT⟩:=hv;replace HT:=zh HT
 replace BR:=au.later (BR) hc2;replace bK:=BR.cell;replace bL:=BR.free;refine hJ _ _ hc2 ?_;clear hJ J;refine aL [_] rfl (fun w5 hb5=>?_);replace BR:=au.later (BR) hb5;replace bK:=BR.cell;replace bL:=BR.free;go_wp2_with fail
 refine dG rfl rfl aT Tryz.underlying112 rfl zk ?_;exact ⟨_,rfl,ah,(aS.aO aI).cast (yZ z y)⟩
theorem wY (v u:Value) (z y:Int) (w:World) (h:aS w v z) (h2:aS w u y) (hy:y≠0) (hd:y ∣ z) (kz:sz 1000000000 z.natAbs≤549755813888) :
  Calls Tryz.prog 184 #[v,u] w (fun e w'=>∃ v,e= .returned v∧Below w.heap.size w w'∧aS w' v (z / y)):=by
 obtain ⟨IW,lH,I5,rfl,H⟩:=h;replace H:=zh H;obtain ⟨am2,lH2,at6,rfl,H2⟩:=h2;replace H2:=zh H2;have KZ:=zh kz;have HY:=zh hy;have HE:Hid (gB (z.natAbs / y.natAbs) (decide (z<0) != decide (y<0))=z / y):=yY hd;clear kz hy hd;go_enter Tryz.func184,Tryz.ntmps184
 go_wp2_with fail
 refine (dR _ _ z.natAbs y.natAbs _ aI aI (Int.natAbs_pos.mpr HY.out) KZ.out).mono ?_;rintro e v1 ⟨v,vr,rfl,hc1,hv,j4⟩;obtain ⟨am1,lHQ,at5,rfl⟩:=hv.slice;have HQ:=zh hv;clear hv;obtain ⟨am0,ay2,at0,rfl⟩:=j4.slice;have HQr:=zh j4;clear j4;have BR:=au.later (au.at2 _ _ _ _ _) hc1;have bK:=BR.cell;have bL:=BR.free;have B1:=au.later (au.alloc (au.oN _ _ _ _) _) hc1;have cB1:=B1.cell;have FQ:=B1.free;have B0:=au.later (au.alloc (au.alloc (au.new _ _ _) _) _) hc1;have cB0:=B0.cell;have jc:=B0.free;go_wp2_with fail
 refine (dx _ (z.natAbs / y.natAbs) _ _ aI).mono ?_;rintro e v2 ⟨v,rfl,hc2,hv⟩;obtain ⟨Qu,lHT,Tg,rfl,HT⟩:=hv;replace HT:=zh HT;replace BR:=au.later (BR) hc2;replace bK:=BR.cell;replace bL:=BR.free;go_wp2_with fail
 refine dG rfl rfl aT Tryz.underlying112 rfl zk ?_;exact ⟨_,rfl,ah,(aS.aO aI).cast HE.out⟩
end Go.Proofs.matrix
namespace Go.Proofs.matrix
open Go Go.RowKit Go.SW Go.Num Go.Mem Go.Proofs Go.Dec Go.cK
theorem GK (x y:Value) (a b:Nat) (w:World) (hx:aK w x a) (hy:aK w y b) (ha:0<a) (ka:sz 1000000000 a≤549755813888) (kb:sz 1000000000 b≤549755813888) :
  Calls Tryz.prog 130 #[x,y] w (fun e w'=>∃ v,e= .returned v∧Below w.heap.size w w'∧aK w' v (a*(b / a.gcd b))):=by
 obtain ⟨IW,lH,I5,rfl⟩:=hx.slice;have H:=zh hx;clear hx;obtain ⟨Qv,lG,Ti,rfl⟩:=hy.slice;have G:=zh hy;clear hy;have hg:0<a.gcd b:=Nat.gcd_pos_of_pos_left _ ha;have kc:= @iG b (a.gcd b);obtain ⟨g,Eg⟩:∃ y:Nat,Hid (a.gcd b=y):=⟨_,zh rfl⟩;rw [Eg.out] at hg kc ⊢;obtain ⟨c,Ec⟩:∃ y:Nat,Hid (b / g=y):=⟨_,zh rfl⟩;rw [Ec.out] at kc ⊢;obtain ⟨d,Ed⟩:∃ y:Nat,Hid (a*c=y):=⟨_,zh rfl⟩;rw [Ed.out];have HG:=zh hg;have KC:=zh (Nat.le_trans kc kb);have KA:=zh ka;have KB:=zh kb;clear hg ha kc ka kb;go_enter Tryz.func130,Tryz.ntmps130
 go_wp2_with fail
 refine ((qP _ _ a b _ aI aI KA.out KB.out).mono (by rw [Eg.out];exact fun _ _ h=>h)).mono ?_;rintro e v1 ⟨v,rfl,hc1,hv⟩;obtain ⟨Vb,lHg,Ww,rfl⟩:=hv.slice;have Hg:=zh hv;clear hv;replace H:=zh (aK.carry H.out aI hc1);replace G:=zh (aK.carry G.out aI hc1);go_wp2_with fail
 refine ((dR _ _ b g _ aI aI HG.out KB.out).mono (by rw [Ec.out];exact fun _ _ h=>h)).mono ?_;rintro e v2 ⟨v,vr,rfl,hc2,hv,j4⟩;obtain ⟨ax1,lHc,aB9,rfl⟩:=hv.slice;have Hc:=zh hv;clear hv;obtain ⟨aE5,aJ7,aF5,rfl⟩:=j4.slice;have Hcr:=zh j4;clear j4;replace H:=zh (aK.later H.out hc2);replace G:=zh (aK.later G.out hc2);replace Hg:=zh (aK.later Hg.out hc2);go_wp2_with fail
 refine ((iD _ _ a c _ aI aI (Nat.le_trans KA.out zo) (Nat.le_trans KC.out zo)).mono (by rw [Ed.out];exact fun _ _ h=>h)).mono ?_;rintro e v3 ⟨v,rfl,hc3,hv⟩;obtain ⟨aH9,lHd,aM9,rfl⟩:=hv.slice;have Hd:=zh hv;clear hv;replace H:=zh (aK.later H.out hc3);go_wp2_with fail
 go_ret
 exact ⟨_,rfl,ah,Hd.out⟩
theorem jm (x y:Value) (n d:Int) (w:World) (hx:aS w x n) (hy:aS w y d) (hd:d≠0) (kn:sz 1000000000 n.natAbs≤549755813888) (kd:sz 1000000000 d.natAbs≤549755813888) (ht:oO.Pow w) :
  Calls Tryz.prog 64 #[x,y] w (fun e w'=>e= .returned (Fr.res (wr ((n:Rat) / (d:Rat))))∧Below w.heap.size w w'):=by
 obtain ⟨IW,lH,I5,rfl,H⟩:=hx;replace H:=zh H;obtain ⟨Qv,lG,Ti,rfl,G⟩:=hy;replace G:=zh G;have hdp:0<d.natAbs:=by omega
 rw [← LA n d hd];have hp:=qI (gB n.natAbs (!(decide (n<0) == decide (d<0)))) hdp;rw [fF] at hp;have hg:0<n.natAbs.gcd d.natAbs:=Nat.gcd_pos_of_pos_right _ hdp;have kt:= @iG n.natAbs (n.natAbs.gcd d.natAbs);have kb:= @iG d.natAbs (n.natAbs.gcd d.natAbs);obtain ⟨q,Eq⟩:∃ y:Rat,Hid (mkRat (gB n.natAbs (Bool.not (decide (n<0) == decide (d<0)))) d.natAbs=y):=⟨_,zh rfl⟩;rw [show mkRat (gB n.natAbs (!(decide (n<0) == decide (d<0)))) d.natAbs=q from Eq.out] at hp ⊢;obtain ⟨g,Eg⟩:∃ y:Nat,Hid (n.natAbs.gcd d.natAbs=y):=⟨_,zh rfl⟩;rw [Eg.out] at hg kt kb hp;obtain ⟨t,Et⟩:∃ y:Nat,Hid (n.natAbs / g=y):=⟨_,zh rfl⟩;rw [Et.out] at kt hp;obtain ⟨b,Eb⟩:∃ y:Nat,Hid (d.natAbs / g=y):=⟨_,zh rfl⟩;rw [Eb.out] at kb hp;have RB:q.num.natAbs=t:=by rw [hp.1,fF]
 have hden:q.den=b:=hp.2
 have VF:q.num=gB t (!(decide (n<0) == decide (d<0))):=by
  rw [hp.1];unfold gB
  by_cases h0:t=0
  ·simp [h0]
  ·have hn0:n.natAbs≠0:=fun e=>h0 (by rw [← Et.out,e];simp)
   by_cases h1:n<0<;>by_cases h2:d<0<;>simp [h1,h2]<;>omega
 have HG:=zh hg;have KT:=zh (Nat.le_trans kt kn);have KB:=zh (Nat.le_trans kb kd);have KN:=zh kn;have KD:=zh kd;have HT:=zh ht;clear hg kt kb kn kd ht hp hd hdp
 rcases Nat.lt_or_ge 600 (Lib.decDigits t).length with h1|h1
 ·rw [qb (by unfold iR;rw [RB,DF h1];rfl)];clear RB hden VF;go_enter Tryz.func64,Tryz.ntmps64
  go_wp2_with fail
  refine ((qP _ _ n.natAbs d.natAbs _ aI aI KN.out KD.out).mono (by rw [Eg.out];exact fun _ _ h=>h)).mono ?_;rintro e v1 ⟨v,rfl,hc1,hv⟩;obtain ⟨Vb,lHg,Ww,rfl⟩:=hv.slice;have Hg:=zh hv;clear hv;replace H:=zh (aK.carry H.out aI hc1);replace G:=zh (aK.carry G.out aI hc1);have BR:=au.later (au.at2 _ _ _ _ _) hc1;have bK:=BR.cell;have bL:=BR.free;have eG:=BR.lt;have B1:=au.later (au.alloc (au.oN _ _ _ _) _) hc1;have cB1:=B1.cell;have FQ:=B1.free;have lB1:=B1.lt;have B0:=au.later (au.alloc (au.alloc (au.new _ _ _) _) _) hc1;have cB0:=B0.cell;have jc:=B0.free;have lB0:=B0.lt;go_wp2_with fail
  refine ((dR _ _ n.natAbs g _ aI aI HG.out KN.out).mono (by rw [Et.out];exact fun _ _ h=>h)).mono ?_;rintro e v2 ⟨v,vr,rfl,hc2,hv,j4⟩;obtain ⟨al5,lHt,as5,rfl⟩:=hv.slice;have Ht:=zh hv;clear hv;obtain ⟨Xy,an0,Ya,rfl⟩:=j4.slice;have Htr:=zh j4;clear j4;replace H:=zh (aK.later H.out hc2);replace G:=zh (aK.later G.out hc2);replace Hg:=zh (aK.later Hg.out hc2);replace BR:=au.later (BR) hc2;replace bK:=BR.cell;replace bL:=BR.free;replace eG:=BR.lt;replace B1:=au.later (B1) hc2;replace cB1:=B1.cell;replace FQ:=B1.free;replace lB1:=B1.lt;replace B0:=au.later (B0) hc2;replace cB0:=B0.cell;replace jc:=B0.free;replace lB0:=B0.lt;go_wp2_with fail
  refine ((dR _ _ d.natAbs g _ aI aI HG.out KD.out).mono (by rw [Eb.out];exact fun _ _ h=>h)).mono ?_;rintro e v3 ⟨v,vr,rfl,hc3,hv,j4⟩;obtain ⟨Vd,lHb,Wx,rfl⟩:=hv.slice;have Hb:=zh hv;clear hv;obtain ⟨Qt,Zr,Tf,rfl⟩:=j4.slice;have Hbr:=zh j4;clear j4;replace Ht:=zh (aK.later Ht.out hc3);replace BR:=au.later (BR) hc3;replace bK:=BR.cell;replace bL:=BR.free;replace eG:=BR.lt;replace B1:=au.later (B1) hc3;replace cB1:=B1.cell;replace FQ:=B1.free;replace lB1:=B1.lt;replace B0:=au.later (B0) hc3;replace cB0:=B0.cell;replace jc:=B0.free;replace lB0:=B0.lt;go_wp2_with fail
  refine (gH _ t _ aI (Nat.le_trans KT.out zo) (HT.out.later ah)).mono ?_;rintro e v4 ⟨rfl,hc4⟩;replace BR:=au.later (BR) hc4;replace bK:=BR.cell;replace bL:=BR.free;replace eG:=BR.lt;go_wp2_with fail
  refine aP rfl rfl aT Tryz.underlying59 rfl zk ?_;exact ⟨rfl,ah⟩
 ·rcases Nat.lt_or_ge 600 (Lib.decDigits b).length with h2|h2
  ·rw [qb (by unfold iR;rw [hden,DF h2,Bool.and_false])];clear RB hden VF;go_enter Tryz.func64,Tryz.ntmps64
   go_wp2_with fail
   refine ((qP _ _ n.natAbs d.natAbs _ aI aI KN.out KD.out).mono (by rw [Eg.out];exact fun _ _ h=>h)).mono ?_;rintro e v1 ⟨v,rfl,hc1,hv⟩;obtain ⟨Vb,lHg,Ww,rfl⟩:=hv.slice;have Hg:=zh hv;clear hv;replace H:=zh (aK.carry H.out aI hc1);replace G:=zh (aK.carry G.out aI hc1);have BR:=au.later (au.at2 _ _ _ _ _) hc1;have bK:=BR.cell;have bL:=BR.free;have eG:=BR.lt;have B1:=au.later (au.alloc (au.oN _ _ _ _) _) hc1;have cB1:=B1.cell;have FQ:=B1.free;have lB1:=B1.lt;have B0:=au.later (au.alloc (au.alloc (au.new _ _ _) _) _) hc1;have cB0:=B0.cell;have jc:=B0.free;have lB0:=B0.lt;go_wp2_with fail
   refine ((dR _ _ n.natAbs g _ aI aI HG.out KN.out).mono (by rw [Et.out];exact fun _ _ h=>h)).mono ?_;rintro e v2 ⟨v,vr,rfl,hc2,hv,j4⟩;obtain ⟨al5,lHt,as5,rfl⟩:=hv.slice;have Ht:=zh hv;clear hv;obtain ⟨Xy,an0,Ya,rfl⟩:=j4.slice;have Htr:=zh j4;clear j4;replace H:=zh (aK.later H.out hc2);replace G:=zh (aK.later G.out hc2);replace Hg:=zh (aK.later Hg.out hc2);replace BR:=au.later (BR) hc2;replace bK:=BR.cell;replace bL:=BR.free;replace eG:=BR.lt;replace B1:=au.later (B1) hc2;replace cB1:=B1.cell;replace FQ:=B1.free;replace lB1:=B1.lt;replace B0:=au.later (B0) hc2;replace cB0:=B0.cell;replace jc:=B0.free;replace lB0:=B0.lt;go_wp2_with fail
   refine ((dR _ _ d.natAbs g _ aI aI HG.out KD.out).mono (by rw [Eb.out];exact fun _ _ h=>h)).mono ?_;rintro e v3 ⟨v,vr,rfl,hc3,hv,j4⟩;obtain ⟨Vd,lHb,Wx,rfl⟩:=hv.slice;have Hb:=zh hv;clear hv;obtain ⟨Qt,Zr,Tf,rfl⟩:=j4.slice;have Hbr:=zh j4;clear j4;replace Ht:=zh (aK.later Ht.out hc3);replace BR:=au.later (BR) hc3;replace bK:=BR.cell;replace bL:=BR.free;replace eG:=BR.lt;replace B1:=au.later (B1) hc3;replace cB1:=B1.cell;replace FQ:=B1.free;replace lB1:=B1.lt;replace B0:=au.later (B0) hc3;replace cB0:=B0.cell;replace jc:=B0.free;replace lB0:=B0.lt;go_wp2_with fail
   refine (gH _ t _ aI (Nat.le_trans KT.out zo) (HT.out.later ah)).mono ?_;rintro e v4 ⟨rfl,hc4⟩;replace Ht:=zh (aK.later Ht.out hc4);replace Hb:=zh (aK.later Hb.out hc4);replace BR:=au.later (BR) hc4;replace bK:=BR.cell;replace bL:=BR.free;replace eG:=BR.lt;go_wp2_with fail
   refine (gH _ b _ aI (Nat.le_trans KB.out zo) (HT.out.later ah)).mono ?_;rintro e v5 ⟨rfl,nT⟩;replace BR:=au.later (BR) nT;replace bK:=BR.cell;replace bL:=BR.free;replace eG:=BR.lt;go_wp2_with fail
   refine aP rfl rfl aT Tryz.underlying59 rfl zk ?_;exact ⟨rfl,ah⟩
  ·rw [Xq (by unfold iR;rw [RB,hden,dP.2 h1,dP.2 h2];rfl),VF,hden];obtain ⟨s,Es⟩:∃ y:Int,Hid (gB t (Bool.not (decide (n<0) == decide (d<0)))=y):=⟨_,zh rfl⟩;rw [show gB t (!(decide (n<0) == decide (d<0)))=s from Es.out];have KS:Hid (sz 1000000000 s.natAbs≤549755813888):=by unfold Hid;rw [← Es.out,fF];exact KT.out
   clear RB hden VF;go_enter Tryz.func64,Tryz.ntmps64
   go_wp2_with fail
   refine ((qP _ _ n.natAbs d.natAbs _ aI aI KN.out KD.out).mono (by rw [Eg.out];exact fun _ _ h=>h)).mono ?_;rintro e v1 ⟨v,rfl,hc1,hv⟩;obtain ⟨Vb,lHg,Ww,rfl⟩:=hv.slice;have Hg:=zh hv;clear hv;replace H:=zh (aK.carry H.out aI hc1);replace G:=zh (aK.carry G.out aI hc1);have BR:=au.later (au.at2 _ _ _ _ _) hc1;have bK:=BR.cell;have bL:=BR.free;have eG:=BR.lt;have B1:=au.later (au.alloc (au.oN _ _ _ _) _) hc1;have cB1:=B1.cell;have FQ:=B1.free;have lB1:=B1.lt;have B0:=au.later (au.alloc (au.alloc (au.new _ _ _) _) _) hc1;have cB0:=B0.cell;have jc:=B0.free;have lB0:=B0.lt;go_wp2_with fail
   refine ((dR _ _ n.natAbs g _ aI aI HG.out KN.out).mono (by rw [Et.out];exact fun _ _ h=>h)).mono ?_;rintro e v2 ⟨v,vr,rfl,hc2,hv,j4⟩;obtain ⟨al5,lHt,as5,rfl⟩:=hv.slice;have Ht:=zh hv;clear hv;obtain ⟨Xy,an0,Ya,rfl⟩:=j4.slice;have Htr:=zh j4;clear j4;replace H:=zh (aK.later H.out hc2);replace G:=zh (aK.later G.out hc2);replace Hg:=zh (aK.later Hg.out hc2);replace BR:=au.later (BR) hc2;replace bK:=BR.cell;replace bL:=BR.free;replace eG:=BR.lt;replace B1:=au.later (B1) hc2;replace cB1:=B1.cell;replace FQ:=B1.free;replace lB1:=B1.lt;replace B0:=au.later (B0) hc2;replace cB0:=B0.cell;replace jc:=B0.free;replace lB0:=B0.lt;go_wp2_with fail
   refine ((dR _ _ d.natAbs g _ aI aI HG.out KD.out).mono (by rw [Eb.out];exact fun _ _ h=>h)).mono ?_;rintro e v3 ⟨v,vr,rfl,hc3,hv,j4⟩;obtain ⟨Vd,lHb,Wx,rfl⟩:=hv.slice;have Hb:=zh hv;clear hv;obtain ⟨Qt,Zr,Tf,rfl⟩:=j4.slice;have Hbr:=zh j4;clear j4;replace Ht:=zh (aK.later Ht.out hc3);replace BR:=au.later (BR) hc3;replace bK:=BR.cell;replace bL:=BR.free;replace eG:=BR.lt;replace B1:=au.later (B1) hc3;replace cB1:=B1.cell;replace FQ:=B1.free;replace lB1:=B1.lt;replace B0:=au.later (B0) hc3;replace cB0:=B0.cell;replace jc:=B0.free;replace lB0:=B0.lt;go_wp2_with fail
   refine (gH _ t _ aI (Nat.le_trans KT.out zo) (HT.out.later ah)).mono ?_;rintro e v4 ⟨rfl,hc4⟩;replace Ht:=zh (aK.later Ht.out hc4);replace Hb:=zh (aK.later Hb.out hc4);replace BR:=au.later (BR) hc4;replace bK:=BR.cell;replace bL:=BR.free;replace eG:=BR.lt;replace B1:=au.later (B1) hc4;replace cB1:=B1.cell;replace FQ:=B1.free;replace lB1:=B1.lt;replace B0:=au.later (B0) hc4;replace cB0:=B0.cell;replace jc:=B0.free;replace lB0:=B0.lt;go_wp2_with fail
   refine (gH _ b _ aI (Nat.le_trans KB.out zo) (HT.out.later ah)).mono ?_;rintro e v5 ⟨rfl,nT⟩;replace Ht:=zh (aK.later Ht.out nT);replace Hb:=zh (aK.later Hb.out nT);replace BR:=au.later (BR) nT;replace bK:=BR.cell;replace bL:=BR.free;replace eG:=BR.lt;replace B1:=au.later (B1) nT;replace cB1:=B1.cell;replace FQ:=B1.free;replace lB1:=B1.lt;replace B0:=au.later (B0) nT;replace cB0:=B0.cell;replace jc:=B0.free;replace lB0:=B0.lt;go_wp2_with fail
   refine ((dx _ t _ _ aI).mono (by rw [show gB t (!(decide (n<0) == decide (d<0)))=s from Es.out];exact fun _ _ h=>h)).mono ?_;rintro e v6 ⟨v,rfl,hc6,hv⟩;obtain ⟨vZ,N8,wN,rfl,Hs⟩:=hv;replace Hs:=zh Hs;replace Hb:=zh (aK.later Hb.out hc6);replace BR:=au.later (BR) hc6;replace bK:=BR.cell;replace bL:=BR.free;replace eG:=BR.lt;go_wp2_with fail
   refine ((yg _ s _ (aS.aO aI) (Nat.le_trans KS.out zo) (HT.out.later ah)).mono (fun _ _ h=>by unfold mW at h;exact h)).mono ?_;rintro e v7 ⟨rfl,JV⟩;replace Hb:=zh (aK.later Hb.out JV);replace BR:=au.later (BR) JV;replace bK:=BR.cell;replace bL:=BR.free;replace eG:=BR.lt;go_wp2_with fail
   refine (oJ _ b _ aI (Nat.le_trans KB.out zo) (HT.out.later ah)).mono ?_;rintro e v8 ⟨rfl,hc8⟩;replace BR:=au.later (BR) hc8;replace bK:=BR.cell;replace bL:=BR.free;replace eG:=BR.lt;go_wp2_with fail
   refine aP rfl rfl aT Tryz.underlying59 rfl zk ?_;exact ⟨rfl,ah⟩
theorem nS:(Tryz.prog.info? 112).map (fun i=>(i.zero,i.size,i.bytes))=some (some (.agg #[.slice none 0 0,.bool false]),2,32):=by kernel_rfl
theorem Ol (pa:Option Addr) (l ca:Nat) (b:Bool) (w:World):(Instr.field 112 (.agg #[.slice pa l ca,.bool b]) 0).run Tryz.prog w= .ok (.slice pa l ca) w:=by kernel_rfl
def Bf (w:World) (qs:List Rat) (e:Ending) (w':World):Prop:=∃ vt vb,e= .returned (.tuple #[vt,vb])∧Below w.heap.size w w'∧bN w' vt (qs.map (ji (bI qs)))∧aK w' vb (bI qs)
theorem Cx (v:Value) (qs:List Rat) (T:TypeId) (w:World) (h:gX w T v (qs.map Fr.of)) (hq:∀ q∈qs,iR q=true) (hl:qs.length≤1000) :
  Calls Tryz.prog 70 #[v] w (Bf w qs):=by
 obtain ⟨i0,hi,hz0,hz1,hz2⟩:=info_parts nS;obtain ⟨a,cap,rfl,hc1,hc2,hread⟩:=h.read;have hln:(qs.map Fr.of).length=qs.length:=List.length_map _
 have Rz:∀ k (h:k<qs.length),∃ b off,a=some ⟨b,off,none⟩∧b<w.heap.size∧w.cell? ⟨b,off+k*2,none⟩=some (.string ⟨(Lib.itoa qs[k].num).toArray⟩)∧w.cell? ⟨b,off+k*2+1,none⟩=some (.string ⟨(Lib.itoa (qs[k].den:Int)).toArray⟩):=fun k hk=>by
  obtain ⟨b,off,e1,e2,e3,e4⟩:=hread k zo;simp only [List.getElem_map] at e3 e4;exact ⟨b,off,e1,e2,e3,e4⟩
 rw [hln] at hc1 ⊢;have Kw:=zh Rz
 have hlen:∀ k (h:k<qs.length),(Lib.decDigits qs[k].num.natAbs).length≤600∧(Lib.decDigits ((qs[k].den:Nat):Int).natAbs).length≤600:=fun k h=>by
  have hq1:=hq _ (List.getElem_mem h);unfold iR at hq1;rw [Bool.and_eq_true,dP,dP] at hq1;exact ⟨hq1.1,(Int.natAbs_natCast qs[k].den).symm ▸ hq1.2⟩
 have HLEN:=zh hlen
 have HSZ:Hid (∀ k,k≤qs.length→sz 1000000000 (bI (qs.take k))≤549755813888):=zh fun k hk=>by
  have:=lK (qs.take k) (fun q h=>hq q (List.mem_of_mem_take h));rw [List.length_take] at this;omega
 have av0:Hid (∀ k,0<bI (qs.take k)):=zh fun k=>(gU _).1
 have ac3:Hid (∀ k (h:k<qs.length),sz 1000000000 qs[k].den≤549755813888∧sz 1000000000 qs[k].num.natAbs≤549755813888):=zh fun k h=>by
  have:=qC (hq _ (List.getElem_mem h));exact ⟨Nat.le_trans this.2 zo,Nat.le_trans this.1 zo⟩
 have HDP:Hid (∀ k (h:k<qs.length),0<qs[k].den):=zh fun k h=>qs[k].den_pos;clear hread Rz hlen hq h hln;have hfd:=Ol;go_enter Tryz.func70,Tryz.ntmps70
 go_wp2_with fail
 go_loopw [13,3] (fun iv bv wr=>∃ k:Nat,iv= .int .i64 (k:Int)∧k≤qs.length∧Hid (aK wr bv (bI (qs.take k)))∧Below w.heap.size w wr) (fun iv _ _=>qs.length - (intOf iv).toNat)
 case atStart=>exact ⟨0,rfl,by omega,zh (show aK _ _ 1 from aK.lit (d:=1) zo zo),ah⟩
 case round =>
  obtain ⟨k,rfl,hk,HB,hb⟩:=hrel;have hbm:=HB.out;obtain ⟨pb,lb,cb,rfl⟩:=hbm.slice;clear hbm
  rcases Nat.lt_or_ge k qs.length with hlt|hge
  ·obtain ⟨b,off,rfl,hbl,hx1,hx2⟩:=Kw.out k hlt;have Pm:=(hb.cell (p:=⟨b,off+k*2,none⟩) hbl).trans hx1;have Pk:=(hb.cell (p:=⟨b,off+k*2+1,none⟩) hbl).trans hx2;have HL2:=zh (HLEN.out k hlt).2;have HS:=zh (HSZ.out k zo);have HP:=zh (av0.out k);have HD:=zh (ac3.out k hlt).1;have HT:=zh (Ov hlt);clear hx1 hx2;generalize bI (qs.take k)=ck at *;generalize qs[k]=q at *;go_wp2_with fail
   refine (d9 (q.den:Int) HL2.out _).mono ?_;rintro e v1 ⟨v,rfl,hc1,hv⟩;obtain ⟨Jy,Zt,Kh,rfl,HN⟩:=hv;replace HN:=zh HN;rw [Int.natAbs_natCast] at HN;replace HB:=zh (aK.carry HB.out aI hc1);go_wp2_with fail
   refine ((GK _ _ ck q.den _ aI aI HP.out HS.out HD.out).mono (by rw [← HT.out];exact fun _ _ h=>h)).mono ?_;rintro e v2 ⟨v,rfl,hc2,hv⟩;obtain ⟨Nv,lHM,Ox,rfl⟩:=hv.slice;have HM:=zh hv;clear hv;go_wp2_with fail
   go_roundw
   case rel=>exact ⟨k+1,by go_num,by omega,HM,Bt hb ah⟩
   case measure=>exact zM
  ·obtain rfl:k=qs.length:=by omega
   rw [List.take_length] at HB;have Fj:=zh (gU qs).2;have HP:=zh (av0.out qs.length);have HS:=zh (HSZ.out qs.length (Nat.le_refl _));rw [List.take_length] at HP HS;have HX:Hid (∀ (k:Nat) (h:k<qs.length),ji (bI qs) qs[k]=(qs.map (ji (bI qs))).getD k 0):=zh fun k h=>by simp [h]
   have HXL:Hid ((qs.map (ji (bI qs))).length=qs.length):=zh (List.length_map _);obtain ⟨xs,EXS⟩:∃ y:List Int,Hid (qs.map (ji (bI qs))=y):=⟨_,zh rfl⟩;obtain ⟨D,HDD⟩:∃ y:Nat,Hid (bI qs=y):=⟨_,zh rfl⟩;rw [EXS.out] at HX HXL;rw [HDD.out] at HX HB Fj HP HS;go_wp2_with (at_make;refine wpList_make_full _ rfl _ _ 114 rfl w.heap.size 112 i0 (.agg #[.slice none 0 0,.bool false]) 2 Tryz.underlying114 hi hz0 hz1 _ _ _ _ qs.length rfl rfl zo zo (by rw [hz2];omega) (by unfold maxLen;omega) hb.size ?_)
   intro w1 hown hgrow;have hbg:Below wr.heap.size wr w1:=(Below.refl _ _).grown hgrow (Nat.le_refl _) (fun k hk=>by cases hk);have HF:=zh (Fill.start (ok:=gq (fun i=>xs.getD i 0)) hown);replace HB:=zh (HB.out.later hbg);have hb1:Below w.heap.size w w1:=Bt hb hbg;have hgb:w.heap.size≤wr.heap.size:=hb.size;generalize wr.heap.size=G at *;clear hown hgrow hbg hb;go_wp2_with fail
   go_loopw [29] (fun iv wr2=>∃ k:Nat,iv= .int .i64 (k:Int)∧k≤qs.length∧Hid (Fill wr2 G 112 qs.length k (gq (fun i=>xs.getD i 0)))∧Hid (aK wr2 (.slice pb lb cb) D)∧Below w.heap.size w wr2) (fun iv _=>qs.length - (intOf iv).toNat)
   case atStart=>exact ⟨0,rfl,by omega,HF,HB,hb1⟩
   case round =>
    obtain ⟨k,rfl,hk,HF,HB,hb⟩:=hrel
    rcases Nat.lt_or_ge k qs.length with hlt|hge
    ·obtain ⟨b,off,rfl,hbl,hx1,hx2⟩:=Kw.out k hlt;have Pm:=(hb.cell (p:=⟨b,off+k*2,none⟩) hbl).trans hx1;have Pk:=(hb.cell (p:=⟨b,off+k*2+1,none⟩) hbl).trans hx2;have Px:=zh (HLEN.out k hlt).1;have HL2:=zh (HLEN.out k hlt).2;have HD1:=zh (ac3.out k hlt).1;have HD2:=zh (ac3.out k hlt).2;have HQ:=zh (HDP.out k hlt);have dW:=zh (HX.out k hlt);have lG:=HF.out.lt;clear hx1 hx2;generalize qs[k]=q at *;have hks:= @iG D q.den;have HKS:=zh (Nat.le_trans hks HS.out);clear hks;obtain ⟨c,Ec⟩:∃ y:Nat,Hid (D / q.den=y):=⟨_,zh rfl⟩;have HX3:Hid (q.num*(c:Int)=xs.getD k 0):=zh (by rw [← dW.out,← Ec.out];rfl);rw [Ec.out] at HKS;go_wp2_with fail
     refine (d9 (q.den:Int) HL2.out _).mono ?_;rintro e v1 ⟨v,rfl,hc1,hv⟩;obtain ⟨Jy,Zt,Kh,rfl,HN⟩:=hv;replace HN:=zh HN;rw [Int.natAbs_natCast] at HN;replace HB:=zh (aK.carry HB.out aI hc1);have hbx:=au.later (au.new _ _ _) hc1;have cbx:=hbx.cell;have lbx:=hbx.lt;replace HF:=zh (HF.out.later (Bt ah hc1) (gq.later (Bt ah hc1)));go_wp2_with fail
     refine ((dR _ _ D q.den _ aI aI HQ.out HS.out).mono (by rw [Ec.out];exact fun _ _ h=>h)).mono ?_;rintro e v2 ⟨v,vr,rfl,hc2,hv,j4⟩;obtain ⟨ax3,lHC,aC1,rfl⟩:=hv.slice;have HC:=zh hv;clear hv;obtain ⟨aE8,aK0,aF8,rfl⟩:=j4.slice;have HCr:=zh j4;clear j4;clear HCr;replace HB:=zh (HB.out.later hc2);replace hbx:=hbx.later hc2;replace cbx:=hbx.cell;replace lbx:=hbx.lt;replace HF:=zh (HF.out.later hc2 (gq.later hc2));go_wp2_with fail
     refine (d9 q.num Px.out _).mono ?_;rintro e v3 ⟨v,rfl,hc3,hv⟩;obtain ⟨Nv,lHM,Ox,rfl,HM⟩:=hv;replace HM:=zh HM;replace HB:=zh (HB.out.later hc3);replace HC:=zh (HC.out.later hc3);replace HF:=zh (HF.out.later hc3 (gq.later hc3));go_wp2_with fail
     refine ((mo _ _ q.num c _ (aS.aO aI) aI HD2.out HKS.out).mono (by rw [HX3.out];exact fun _ _ h=>h)).mono ?_;rintro e v4 ⟨v,rfl,hc4,hv⟩;obtain ⟨DC,Vx,Eu,rfl,HV⟩:=hv;replace HV:=zh HV;replace HB:=zh (HB.out.later hc4);replace HF:=zh (HF.out.later hc4 (gq.later hc4));obtain ⟨⟨y1,BO⟩,⟨y2,Oq⟩,fy⟩:=HF.out.cells hlt;go_wp2_with fail
     have LD:=HF.out.rX;go_roundw
     case rel =>
      exact ⟨k+1,by go_num,by omega,zh (HF.out.step hlt (fun i x y h=>gq.jP LD.setCell zd _ _ _ (gq.jP LD zd _ _ _ h)) ⟨_,_,_,rfl,rfl,(HV.out.jP LD zd).jP LD.setCell zd⟩),
       zh ((HB.out.jP LD zd).jP LD.setCell zd),(by have hG:wr.heap.size≥0:=Nat.zero_le _;exact ((Bt (Bt (Bt (Bt (aJ hb _) hc1) hc2) hc3) hc4).setCell hgb _).setCell hgb _)⟩
     case measure=>exact zM
    ·obtain rfl:k=qs.length:=by omega
     have hxl:=HXL.out
     have hfin:bN wr (.slice (some ⟨G,0,none⟩) qs.length qs.length) xs:=by
      have:=HF.out;rw [← hxl] at this ⊢;exact bN.rG this zo
     have ac2:=zh hfin;clear hfin hxl;go_wp2_with fail
     go_ret2
     exact ⟨_,_,rfl,hb,by rw [EXS.out];exact ac2.out,by rw [HDD.out];exact HB.out⟩
def vK (w:World) (z:Int) (e:Ending) (w':World):Prop:=∃ v,e= .returned (.tuple #[v,.int .i64 0])∧Below w.heap.size w w'∧aS w' v z
theorem Wd (bx by':Nat) (vx vy:Value) (xs ys:List Int) (i:Nat) (w:World) (hx:bN w vx xs) (hy:bN w vy ys) (hbx:au w bx #[vx] 114) (hby:au w by' #[vy] 114)
  (h1:i<xs.length) (h2:i<ys.length) (k1:sz 1000000000 (xs.getD i 0).natAbs≤549755813888) (k2:sz 1000000000 (ys.getD i 0).natAbs≤549755813888) :
  Calls Tryz.prog 123 #[.int .i64 (i:Int),.pointer (some ⟨bx,0,none⟩),.pointer (some ⟨by',0,none⟩)] w (vK w (xs.getD i 0*ys.getD i 0)):=by
 obtain ⟨a,cap,rfl,hc1,hc2,hread⟩:=hx.read;obtain ⟨a',cap',rfl,hc1',hc2',wF⟩:=hy.read;obtain ⟨b,off,pa,n,ca,rfl,hbl,Pm,Pk,hm⟩:=hread i h1;obtain ⟨b',off',pa',n',Po,rfl,nE,BO,Oq,hm'⟩:=wF i h2;have H:=zh hm;have H':=zh hm';have cbx:=hbx.cell;have cby:=hby.cell;have lx:=hbx.lt;have ly:=hby.lt;generalize xs.getD i 0=x at *;generalize ys.getD i 0=u at *;have K1:=zh k1;have K2:=zh k2;obtain ⟨z,Ez⟩:∃ y:Int,Hid (x*u=y):=⟨_,zh rfl⟩;rw [Ez.out];clear hm hm' hread wF hx hy k1 k2 hbx hby;go_enter Tryz.func123,Tryz.ntmps123
 go_wp2_with fail
 refine aD [(.read,0),(.pure,1),(.pure,2),(.read,3),(.read,4),(.pure,5),(.pure,6),(.read,7),(.ext,8),(.fin,9),(.fin,10)] zk zk zR zP ?_;refine zV ?_;refine aG rfl rfl (fun w1 hb1 J hJ=>?_);go_simp;have BR:=au.later (au.drew (au.new _ _ _)) hb1;have bK:=BR.cell;have bL:=BR.free;have eG:=BR.lt;refine ((mR _ _ x u _ (aS.aO aI) (aS.aO aI) K1.out K2.out).mono (by rw [Ez.out];exact fun _ _ h=>h)).mono ?_;rintro e v1 ⟨v,rfl,hc1,hv⟩;obtain ⟨DC,Vx,Eu,rfl,HV⟩:=hv;replace HV:=zh HV;replace BR:=au.later (BR) hc1;replace bK:=BR.cell;replace bL:=BR.free;replace eG:=BR.lt;refine hJ _ _ hc1 ?_;clear hJ J;refine aL [_,_] rfl (fun w5 hb5=>?_);replace BR:=au.later (BR) hb5;replace bK:=BR.cell;replace bL:=BR.free;replace eG:=BR.lt;go_wp2_with fail
 refine aP rfl rfl aT Tryz.underlying112 rfl zk ?_;exact ⟨_,rfl,ah,aS.aO aI⟩
theorem V9 (vx vy:Value) (x y:Int) (w:World) (hx:aS w vx x) (hy:aS w vy y) (k1:sz 1000000000 x.natAbs≤549755813888) (k2:sz 1000000000 y.natAbs≤549755813888) :
  Calls Tryz.prog 125 #[vx,vy] w (vK w (x+y)):=by
 obtain ⟨IW,lH,I5,rfl,H⟩:=hx;replace H:=zh H;obtain ⟨Qv,lG,Ti,rfl,G⟩:=hy;replace G:=zh G;have K1:=zh k1;have K2:=zh k2;obtain ⟨z,Ez⟩:∃ z:Int,Hid (x+y=z):=⟨_,zh rfl⟩;rw [Ez.out];clear k1 k2;go_enter Tryz.func125,Tryz.ntmps125
 go_wp2_with fail
 refine ((sQ _ _ x y _ (aS.aO aI) (aS.aO aI) K1.out K2.out).mono (by rw [Ez.out];exact fun _ _ h=>h)).mono ?_;rintro e v1 ⟨v,rfl,hc1,hv⟩;obtain ⟨DC,Vx,Eu,rfl,HV⟩:=hv;replace HV:=zh HV;have BR:=au.later (au.at2 _ _ _ _ _) hc1;have bK:=BR.cell;have bL:=BR.free;have eG:=BR.lt;go_wp2_with fail
 refine aP rfl rfl aT Tryz.underlying112 rfl zk ?_;exact ⟨_,rfl,ah,aS.aO aI⟩
def o8 (f:Nat→Int):Nat→Int
 | 0=>0
 | k+1=>o8 f k+f k
theorem rD (f:Nat→Int) (K:Nat) (h:∀ j,sz 1000000000 (f j).natAbs≤K):∀ k,sz 1000000000 (o8 f k).natAbs≤K+k
 | 0=>by simp [o8,iB]
 | k+1=>by
  have h1:=rD f K h k;have h2:=h k;have h3:=rA (o8 f k) (f k);simp only [o8];omega
def vE (w:World) (z:Int) (e:Ending) (w':World):Prop:=∃ v,e= .returned (.tuple #[v,.int .i64 0])∧Below w.heap.size w w'∧aS w' v z
theorem UW (bx by':Nat) (vx vy:Value) (xs ys:List Int) (n:Nat) (w:World) (hx:bN w vx xs) (hy:bN w vy ys) (hbx:au w bx #[vx] 114) (hby:au w by' #[vy] 114)
  (h1:xs.length=n) (h2:ys.length=n) (h0:0<n) (hn:n≤1000) (k1:∀ i,sz 1000000000 (xs.getD i 0).natAbs≤1000000) (k2:∀ i,sz 1000000000 (ys.getD i 0).natAbs≤1000000) :
  Calls Tryz.prog 122 #[.int .i64 (n:Int),.func (.func 123) #[] #[.pointer (some ⟨bx,0,none⟩),.pointer (some ⟨by',0,none⟩)],.func (.func 125) #[] #[]] w (vE w (o8 (fun i=>xs.getD i 0*ys.getD i 0) n)):=by
 have HD:Hid (∀ i,i<n→∀ w',Below w.heap.size w w'→Calls Tryz.prog 123 #[.int .i64 (i:Int),.pointer (some ⟨bx,0,none⟩),.pointer (some ⟨by',0,none⟩)] w' (vK w' (xs.getD i 0*ys.getD i 0))) :=
  zh fun i hi w' hb=>Wd bx by' vx vy xs ys i w' (hx.later hb) (hy.later hb) (hbx.later hb) (hby.later hb) zo zo (Nat.le_trans (k1 i) zo) (Nat.le_trans (k2 i) zo)
 obtain ⟨f,hf⟩:∃ f:Nat→Int,f=fun i=>xs.getD i 0*ys.getD i 0:=⟨_,rfl⟩
 have hfz:∀ i,sz 1000000000 (f i).natAbs≤2000000:=fun i=>by
  rw [hf];have:=iH (xs.getD i 0) (ys.getD i 0);have:=k1 i;have:=k2 i;simp only;omega
 have HFZ:Hid (∀ i,sz 1000000000 (f i).natAbs≤549755813888):=zh fun i=>Nat.le_trans (hfz i) zo
 have HPZ:Hid (∀ i,i≤n→sz 1000000000 (o8 f i).natAbs≤549755813888):=zh fun i hi=>by
  have:=rD f _ hfz i;omega
 have HD2:Hid (∀ i,i<n→∀ w',Below w.heap.size w w'→Calls Tryz.prog 123 #[.int .i64 (i:Int),.pointer (some ⟨bx,0,none⟩),.pointer (some ⟨by',0,none⟩)] w' (vK w' (f i))):=by
  rw [hf];exact HD
 rw [← hf];clear hf hfz HD hx hy hbx hby h1 h2 k1 k2;have XW:f 0=o8 f (0+1):=by simp [o8]
 have CV:=zh XW;clear XW;go_enter Tryz.func122,Tryz.ntmps122
 go_wp2_with fail
 refine (HD2.out 0 h0 _ ah).mono ?_;rintro e v1 ⟨v,rfl,hc1,hv⟩;obtain ⟨DC,Vx,Eu,rfl,HV⟩:=hv;replace HV:=zh HV;rw [CV.out] at HV ⊢;have BR:=au.later (au.alloc (au.new _ _ _) _) hc1;have bK:=BR.cell;have bL:=BR.free;have eG:=BR.lt;go_wp2_with fail
 have hbt:=au.new v1 #[.slice DC Vx Eu,.bool (decide (o8 f (0+1)<0))] 112;have hbr:=BR.alloc (.cells #[.slice DC Vx Eu,.bool (decide (o8 f (0+1)<0))] 112 (0,0));have hbw:Below w.heap.size w v1:=Bt ah hc1;have hnd:=eG;clear BR bK bL eG;obtain ⟨B9,Z9⟩:∃ b,v1.heap.size=b:=⟨_,rfl⟩;rw [Z9] at hbt hnd ⊢;have HB9:=zh Z9;clear Z9
 go_loopw [11] (fun iv wr=>∃ (k:Nat) (pa:Option Addr) (l ca:Nat),iv= .int .i64 (k:Int)∧1≤k∧k≤n∧Hid (au wr B9 #[.slice pa l ca,.bool (decide (o8 f k<0))] 112)∧Hid (aK wr (.slice pa l ca) (o8 f k).natAbs)∧Hid (au wr w.heap.size #[.slice none 0 0,.bool false] 112)∧Below w.heap.size w wr) (fun iv _=>n - (intOf iv).toNat)
 case atStart=>exact ⟨1,_,_,_,rfl,by omega,by omega,zh hbt,zh aI,zh hbr,aJ hbw _⟩
 case round =>
  obtain ⟨k,pa,l,ca,rfl,hk1,hk2,HT,HM,HR,hb⟩:=hrel;have ct:=HT.out.cell;have ft:=HT.out.free;have lt:=HT.out.lt;have cr:=HR.out.cell;have fr:=HR.out.free;have lr:=HR.out.lt;have hne:w.heap.size≠B9:=by omega
  have hne2:B9≠w.heap.size:=by omega
  rcases Nat.lt_or_ge k n with hlt|hge
  ·have HF:=zh (HFZ.out k);have HP:=zh (HPZ.out k zo);have HS:Hid (o8 f k+f k=o8 f (k+1)):=zh rfl;go_wp2_with fail
   refine (HD2.out k hlt _ hb).mono ?_;rintro e v2 ⟨v,rfl,hc2,hv⟩;obtain ⟨aI1,jM,aN1,rfl,HX⟩:=hv;replace HX:=zh HX;have ht2:=HT.out.later hc2;replace ct:=ht2.cell;replace ft:=ht2.free;replace lt:=ht2.lt;have hr2:=HR.out.later hc2;replace HM:=zh (HM.out.later hc2);go_wp2_with fail
   refine ((V9 _ _ (o8 f k) (f k) _ (aS.aO aI) (aS.aO aI) HP.out HF.out).mono (by rw [HS.out];exact fun _ _ h=>h)).mono ?_;rintro e v3 ⟨v,rfl,hc3,hv⟩;obtain ⟨aI0,wZ,aN0,rfl,HY⟩:=hv;replace HY:=zh HY;have ht3:=(ht2.alloc _).later hc3;replace ct:=ht3.cell;replace ft:=ht3.free;replace lt:=ht3.lt;have hr3:=(hr2.alloc _).later hc3;have is3:=ht3.rX;clear ht2 hr2 cr fr lr;go_wp2_with fail
   go_roundw
   case rel =>
    refine ⟨k+1,_,_,_,by go_num,by omega,by omega,zh ((ht3.set 0 _).set 1 _),zh ((HY.out.jP is3 zd).jP is3.setCell zd),zh ((hr3.setOther _ hne).setOther _ hne),?_⟩;exact ((Bt (aJ (Bt hb hc2) _) hc3).setCell (by simp;omega) _).setCell (by simp;omega) _
   case measure=>exact zM
  ·obtain rfl:k=n:=by omega
   have isr:=HR.out.rX;go_wp2_with fail
   refine aP rfl rfl ((HR.out.set 0 _).set 1 _) Tryz.underlying112 rfl zk ?_;exact ⟨_,rfl,(hb.setCell zi _).setCell zi _,aS.aO ((HM.out.jP isr zd).jP isr.setCell zd)⟩
def wL (xs ys:List Int):Int:=o8 (fun i=>xs.getD i 0*ys.getD i 0) xs.length
theorem SA (vx vy:Value) (xs ys:List Int) (w:World) (hx:bN w vx xs) (hy:bN w vy ys)
  (h2:ys.length=xs.length) (h0:0<xs.length) (hn:xs.length≤1000) (k1:∀ i,sz 1000000000 (xs.getD i 0).natAbs≤1000000) (k2:∀ i,sz 1000000000 (ys.getD i 0).natAbs≤1000000) :
  Calls Tryz.prog 65 #[vx,vy] w (fun e w'=>∃ v,e= .returned v∧Below w.heap.size w w'∧aS w' v (wL xs ys)):=by
 obtain ⟨a,cap,rfl,hc1,hc2, -⟩:=hx.read;obtain ⟨a',cap',rfl,hc1',hc2', -⟩:=hy.read
 have HS:Hid (∀ bx by' w',Below w.heap.size w w'→au w' bx #[.slice a xs.length cap] 114→au w' by' #[.slice a' ys.length cap'] 114→Calls Tryz.prog 122 #[.int .i64 (xs.length:Int),.func (.func 123) #[] #[.pointer (some ⟨bx,0,none⟩),.pointer (some ⟨by',0,none⟩)],.func (.func 125) #[] #[]] w' (vE w' (wL xs ys))) :=
  zh fun bx by' w' hb h3 h4=>UW bx by' _ _ xs ys xs.length w' (hx.later hb) (hy.later hb) h3 h4 rfl h2 h0 hn k1 k2
 obtain ⟨z,Ez⟩:∃ z:Int,Hid (wL xs ys=z):=⟨_,zh rfl⟩;rw [Ez.out] at HS ⊢;clear hx hy k1 k2 h0 h2;have hmf:∀ (fn:Fn) (first cap:Array Value) (w:World),(Instr.makeFunc fn first cap).run Tryz.prog w= .ok (.func fn first cap) w:=fun _ _ _ _=>rfl;go_enter Tryz.func65,Tryz.ntmps65
 go_wp2_with fail
 refine (HS.out _ _ _ ah aT aT).mono ?_;rintro e v1 ⟨v,rfl,hc1,hv⟩;obtain ⟨DC,Vx,Eu,rfl,HV⟩:=hv;replace HV:=zh HV;have BR:=au.later (au.at2 _ _ _ _ _) hc1;have bK:=BR.cell;have bL:=BR.free;have eG:=BR.lt;go_wp2_with fail
 refine dG rfl rfl aT Tryz.underlying112 rfl zk ?_;exact ⟨_,rfl,ah,aS.aO aI⟩
end Go.Proofs.matrix
namespace Go.Proofs.matrix
open Go Go.RowKit Go.Shelf Go.SW Go.Num Go.Mem Go.Proofs Go.Dec Go.cK
attribute [local go_sem] Oper.semAt_some
theorem LG:(Tryz.prog.info? 114).map (fun i=>(i.zero,i.size,i.bytes))=some (some (.slice none 0 0),1,24):=by kernel_rfl
theorem VD:(Tryz.prog.info? 108).map (fun i=>(i.zero,i.size,i.bytes))=some (some (.slice none 0 0),1,24):=by kernel_rfl
abbrev RM:=List (List Rat)
def RM.fr (m:RM):List (List Fr):=m.map fun r=>r.map Fr.of
def dX (r:List Rat):List Int:=r.map (ji (bI r))
def au0 (w:World) (v:Value) (m:RM):Prop:=∃ va na ca vb nb cb,v= .agg #[.slice va na ca,.slice vb nb cb]∧xK w (.slice va na ca) (m.map dX)∧vM w (.slice vb nb cb) (m.map bI)
theorem au.keep {l:List TypeId} {w w':World} {b:Nat} {cs:Array Value} {T:TypeId} (h:au w b cs T) (k:Keep l w w') (hT:T∉l):au w' b cs T:=k _ _ _ hT h
theorem xg {w w':World} {base k:Nat} {e:TypeId} {s:Nat} {v:Value} {xs:List Value} (hown:w.ownsRow base e s v k xs) (hg:w.grownBy w' v.ownBlock):KeepsOthers w w' :=
 ⟨hg.size,fun i o hi ho=>by
  rw [hg.block i (Array.getElem?_eq_some_iff.1 hi).1 ?_]
  ·exact hi
  ·intro he;obtain ⟨-, ⟨rfl, -⟩|⟨g,cap,cur,rfl, -, hgg, -⟩⟩:=hown
   ·cases he
   ·simp only [Value.ownBlock,Option.some.injEq] at he;subst he;rw [hi] at hgg;cases hgg
    cases ho⟩
theorem CO {β γ:Type} {R:γ→β→Prop} (f:List Rat→γ) (m:RM) {n:Nat} (hn:n=m.length) {rs:List β} (h:ni (fun (i:Fin n) r=>R (f (m.getD i.1 [])) r) (upto n (Nat.le_refl _)) rs):ni R (m.map f) rs:=by
 obtain ⟨h1,h2⟩:=h;rw [nL] at h1;refine ⟨by rw [h1,hn,List.length_map],fun i hi hi'=>?_⟩;have hin:i<n:=by rw [List.length_map] at hi;omega
 have:=h2 i (by rw [nL];exact hin) hi';have e:((upto n (Nat.le_refl _))[i]'(by rw [nL];exact hin))=⟨i,hin⟩:=by simp [upto]
 rw [e] at this;have him:i<m.length:=by omega
 simpa [him] using this
def Ms (w:World) (Bt:Nat) (m:RM) (n:Nat) (pre:List (Fin n)) (W:World):Prop :=
 ∃ va na ca vb nb cb rs bs,au W Bt #[.slice va na ca,.slice vb nb cb] 105∧W.ownsRow w.heap.size 114 1 (.slice va na ca) pre.length rs∧W.ownsRow w.heap.size 108 1 (.slice vb nb cb) pre.length bs ∧
  ni (fun (i:Fin n) r=>bN W r (dX (m.getD i.1 []))) pre rs∧ni (fun (i:Fin n) r=>aK W r (bI (m.getD i.1 []))) pre bs
theorem Ms.kept {w:World} {Bt:Nat} {m:RM} {n:Nat} {pre:List (Fin n)} {W W':World} (h:Ms w Bt m n pre W) (k:Keep [] W W'):Ms w Bt m n pre W':=by
 obtain ⟨va,na,ca,vb,nb,cb,rs,bs,h1,h2,h3,h4,h5⟩:=h;exact ⟨va,na,ca,vb,nb,cb,rs,bs,k _ _ _ zi h1,iq h2 k zi,iq h3 k zi,h4.mono fun _ _ h=>h.kept k zi zi,h5.mono fun _ _ h=>cK.aK.kept h k zi⟩
def T9 (n:Nat) (v:Value):Prop:=∀ pa k c s,v= .agg #[.slice (some pa) k c,s]→n≤pa.block
theorem H7 {w:World} {base k n c:Nat} {T:TypeId} {va:Option Addr} {s:Value} {xs:List Value} (h:w.ownsRow base T 1 (.slice va n c) k xs):T9 base (.agg #[.slice va n c,s]):=by
 intro pa k' c' s' e;simp only [Value.agg.injEq] at e
 have e1:Value.slice va n c= .slice (some pa) k' c':=by
  have:=congrArg (fun a=>a[0]?) e
  simpa using this
 obtain ⟨-, ⟨h2, -⟩|⟨g,cap,cur,h3,h4, -⟩⟩:=h
 ·rw [e1] at h2;cases h2
 ·rw [e1] at h3;simp only [Value.slice.injEq,Option.some.injEq] at h3;rw [h3.1];exact h4
theorem Gu (v:Value) (m:RM) (w:World) (h:aN w v m.fr) (hm:m.length≤4) (hq:∀ r∈m,r.length≤4∧∀ q∈r,iR q=true) :
  Calls Tryz.prog 62 #[v] w fun e w'=>∃ v,e= .returned v∧Below w.heap.size w w'∧au0 w' v m∧T9 w.heap.size v:=by
 obtain ⟨ir,ir1,ir2,ir3,ir4⟩:=info_parts LG;obtain ⟨im,im1,im2,im3,im4⟩:=info_parts VD;obtain ⟨rs,hR,hlen,hF⟩:=h;have hlm:rs.length=m.length:=hlen.trans (List.length_map _)
 have KJ:Hid (∀ i (h:i<rs.length),gX w 59 rs[i] ((m.getD i []).map Fr.of)∧(m.getD i []).length≤4∧∀ q∈m.getD i [],iR q=true):=zh fun i hi=>by
  have him:i<m.length:=by omega
  have e:m.getD i []=m[i]:=by simp [him]
  rw [e];refine ⟨?_,hq _ (List.getElem_mem _)⟩;have:=hF i hi (by rw [← hlen];exact hi)
  simpa [RM.fr] using this
 have HR:=zh hR;have HLM:=zh hlm;have hR2:=hR;obtain ⟨a,cap,rfl, -⟩:=hR2;clear hR hF hlen hlm hq;refine (callsIn_wide (n:=3)).1 ?_;refine callsIn_of_wp_marks Tryz.func62 rfl trivial ?_ rfl;simp only [Tryz.ntmps62,List.size_toArray,List.length_cons,List.length_nil,Nat.reduceAdd,Nat.reduceSub,Array.replicate_succ,Array.replicate_zero,List.push_toArray,List.append_toArray,List.nil_append,List.cons_append]
 gi_wp2_with (refine ⟨trivial,?_⟩;gi_at_call 58;refine (ug Fence.wide 2 trivial rfl _ _ _ _).mono ?_;rintro e w' ⟨rfl,rfl⟩)
 obtain ⟨W0,hW0⟩:∃ W0,((w.alloc (.cells #[.slice none 0 0,.slice none 0 0] 105)).alloc (.cells #[.slice none 0 0,.slice none 0 0] 105)).alloc (.cells #[.slice a rs.length cap] 23)=W0:=⟨_,rfl⟩;have hB0:Below w.heap.size w W0:=by rw [← hW0];exact ah
 have hbx0:au W0 w.heap.size #[.slice none 0 0,.slice none 0 0] 105:=by rw [← hW0];exact aT
 have xW:au W0 (w.heap.size+1) #[.slice none 0 0,.slice none 0 0] 105:=by rw [← hW0];exact aT
 have xV:au W0 (w.heap.size+1+1) #[.slice a rs.length cap] 23:=by rw [← hW0];exact aT
 rw [hW0]
 refine wpIn_rangeFunc_ownF (α:=Fin rs.length) rfl zo (gf:=115) (lb:=#[.pointer (some ⟨w.heap.size+1+1,0,none⟩)]) rfl trivial (enters_of Tryz.func115 zk rfl)
  (nK Fence.wide 2 trivial rfl zo (w.heap.size+1+1) w.heap.size _ rs w _ xV.lt hB0.size ((xV.cell 0).trans rfl) HR.out (Nat.le_refl _) hB0) belowK_t (belowK_b hB0.size) (Below.refl _ _) (fun _=>rfl)
  (fun pre W=>(Ms w (w.heap.size+1) m rs.length pre W∧au W w.heap.size #[.slice none 0 0,.slice none 0 0] 105)∧Below w.heap.size w W)
  (fun _ _ _=>False)
  (OwnFrom.and (Own.from (fun s A B row hs hg hr=>⟨hs.1.kept (Keep.others hg hr),dK hs.2 hg hr⟩) _) (ownFrom_below (Nat.le_refl _) hB0.size))
  (fun _ _ _ _ _ hs _ _=>hs)
  ⟨⟨⟨_,_,_,_,_,_,[],[],xW,World.ownsRow_nil _ _ _ _,World.ownsRow_nil _ _ _ _,ni.nil,ni.nil⟩,hbx0⟩,hB0⟩ ?a1 ?assign ?body ?done ?stop
 case assign =>
  intro l x W K hK;unfold enc
  gi_wp2
  exact hK
 case body =>
  rintro l pre x W ⟨⟨hI,hb0⟩,hB⟩ hpl;obtain ⟨va,na,ca,vb,nb,cb,xs,bs,hT,ho1,ho2,h4,h5⟩:=hI;obtain ⟨hfr,hq1,hq2⟩:=KJ.out x.1 x.2;have hpn:pre.length<4:=by have:=HLM.out;omega
  have hx0:dX (m.getD x.1 [])=(m.getD x.1 []).map (ji (bI (m.getD x.1 []))):=rfl;obtain ⟨a',cap',hre, -⟩:=hfr.read;have HCM:=zh (Cx rs[x.1] (m.getD x.1 []) 59 W (hfr.later hB) hq2 zo);rw [hre] at HCM;clear hfr hq1 hq2;generalize rs[x.1]=rx at *;subst hre;unfold Bf at HCM;rw [← hx0] at HCM;have H4:=zh h4;have H5:=zh h5;have Xb:=zh ho1;have kK:=zh ho2;clear h4 h5 ho1 ho2 hx0;have hlr:((m.getD x.1 []).map Fr.of).length=(m.getD x.1 []).length:=List.length_map _;rw [hlr] at HCM ⊢;have HX:Hid (∃ r:List Rat,m.getD x.1 []=r):=zh ⟨_,rfl⟩;obtain ⟨r,hr⟩:=HX.out;rw [hr] at HCM ⊢;have HRR:=zh hr;clear hr HX hlr
  gi_wp2_with (first
   | (refine ⟨trivial,?_⟩;gi_at_call 70;refine (CallsIn.inRound l (callsIn_wide.2 HCM.out)).mono ?_;rintro e w1 ⟨vt,vd,rfl,hc1,hv1,hv2⟩;obtain ⟨at',ct',rfl, -⟩:=hv1.read;obtain ⟨ad,nd,cd,rfl⟩:=hv2.slice;have HV1:=zh hv1;have qZ:=zh hv2;clear hv1 hv2;have hT1:=hT.later hc1;have cT:=hT1.cell;have fT:=hT1.free;have lT:=hT1.lt)
   | (gi_at_builtin;refine wpListIn_append_own _ rfl (.tmp 18) (.tmp 20) 102 rfl w.heap.size 114 ir (.slice none 0 0) 1 24 Tryz.underlying102 ir1 ir2 ir3 ir4 rfl zd _ _ _ rfl ((sZ Xb.out hc1).alloc _) ⟨w1.heap.size,0,none⟩ 1 1 [.slice at' (dX r).length ct'] rfl rfl (by intro t u ht;match t,ht with|0,ht=>simp at ht;subst ht;simp [Addr.add]) (by intro u hu;simp at hu;subst hu;rfl) (by unfold maxLen;omega) zo (by have:=hB.size;have:=hc1.size;simp;omega) ?_))
  intro v2 w2 hown2 hgrow2 _;obtain ⟨g2,c2,rfl⟩:=ownsRow_succ hown2;have k2:Keep [114] w1 w2:=Keep.trans (Keep.of_below ah) (Keep.grown ((sZ Xb.out hc1).alloc _) hgrow2);have K2:Hid (Keep [114] W w2):=zh (Keep.trans (Keep.of_below hc1) k2);have XV:=k2 _ _ _ zd hT1;replace cT:=XV.cell;replace fT:=XV.free;replace lT:=XV.lt;have rX:=XV.rX;have VQ:Below w.heap.size w w1:=hB.trans (hc1.mono hB.size);have hbw2:Below w.heap.size w w2:=(aJ VQ _).grown hgrow2 (by have:=VQ.size;simp;omega) (fun k hk=>(Xb.out.lt k hk).1);have ko2:KeepsOthers w1 w2:=(KeepsOthers.alloc _ _).trans (xg ((sZ Xb.out hc1).alloc _) hgrow2);have aB2:Below w.heap.size W w2:=(Below.alloc (hc1.mono hB.size) VQ.size _).grown hgrow2 (by have:=VQ.size;simp;omega) (fun k hk=>(Xb.out.lt k hk).1);have HW2:=zh hown2;have KV:=zh k2
  have TV:Hid ((w2.setCell ⟨w.heap.size+1,0,none⟩ (.slice (some ⟨g2,0,none⟩) (pre.length+1) c2)).ownsRow w.heap.size 108 1 (.slice vb nb cb) pre.length bs):=zh (iq (iq kK.out K2.out zd) (Keep.setCell rX) zd);have aG8:=hbw2.size;clear hown2 hgrow2 k2 hT1
  gi_wp2_with (gi_at_builtin;refine wpListIn_append_own _ rfl (.tmp 24) (.tmp 26) 103 rfl w.heap.size 108 im (.slice none 0 0) 1 24 Tryz.underlying103 im1 im2 im3 im4 rfl zd _ _ _ rfl (TV.out.alloc _) ⟨w2.heap.size,0,none⟩ 1 1 [.slice ad nd cd] rfl rfl (by intro t u ht;match t,ht with|0,ht=>(simp at ht;subst ht;exact ((au.qE (b:=w2.heap.size) zi).cell 0).trans rfl)) (by intro u hu;simp at hu;subst hu;rfl) (by unfold maxLen;omega) zo (by simp;omega) ?_)
  intro v3 w3 hown3 hgrow3 _;obtain ⟨g3,c3,rfl⟩:=ownsRow_succ hown3;have k3:Keep [108] (w2.setCell ⟨w.heap.size+1,0,none⟩ (.slice (some ⟨g2,0,none⟩) (pre.length+1) c2)) w3:=Keep.trans (Keep.of_below ah) (Keep.grown (TV.out.alloc _) hgrow3);have hT3:=k3 _ _ _ zd (XV.set 0 (.slice (some ⟨g2,0,none⟩) (pre.length+1) c2));replace cT:=hT3.cell;replace fT:=hT3.free;replace lT:=hT3.lt;have Vy:=hT3.rX;have aA6:Below w.heap.size w w3:=(aJ (hbw2.setCell zi _) _).grown hgrow3 (by simp;omega) (fun k hk=>(TV.out.lt k hk).1);have ko3:KeepsOthers (w2.setCell ⟨w.heap.size+1,0,none⟩ (.slice (some ⟨g2,0,none⟩) (pre.length+1) c2)) w3:=(KeepsOthers.alloc _ _).trans (xg (TV.out.alloc _) hgrow3);have aB1:Below w.heap.size W w3:=(Below.alloc (aB2.setCell zi _) (by simp;omega) _).grown hgrow3 (by simp;omega) (fun k hk=>(TV.out.lt k hk).1);have HW3:=zh hown3
  have K3:Hid (Keep [108] (w2.setCell ⟨w.heap.size+1,0,none⟩ (.slice (some ⟨g2,0,none⟩) (pre.length+1) c2)) w3):=zh k3;clear hown3 hgrow3 k3
  gi_wp2
  have aA5:=au.keep (hb0.later hc1) KV.out zd;have aA4:=aA5.setOther (.slice (some ⟨g2,0,none⟩) (pre.length+1) c2) (a:=⟨w.heap.size+1,0,none⟩) zi;have aA3:=au.keep aA4 K3.out zd;have hbz:=aA3.setOther (.slice (some ⟨g3,0,none⟩) (pre.length+1) c3) (a:=⟨w.heap.size+1,1,none⟩) zi;refine ⟨((((dQ hc1).trans ko2).trans (KeepsOthers.setCell _ _ _)).trans ko3).trans (KeepsOthers.setCell _ _ _),aB1.setCell zi _,⟨⟨_,_,_,_,_,_,xs++[.slice at' (dX r).length ct'],bs++[.slice ad nd cd],hT3.set 1 _,?_,?_,?_,?_⟩,hbz⟩,aA6.setCell zi _⟩
  ·rw [List.length_append];exact iq (iq (iq HW2.out (Keep.setCell rX) zd) K3.out zd) (Keep.setCell Vy) zd
  ·rw [List.length_append];exact iq HW3.out (Keep.setCell Vy) zd
  ·have kk:Keep [114,105,108] w1 (w3.setCell ⟨w.heap.size+1,1,none⟩ (.slice (some ⟨g3,0,none⟩) (pre.length+1) c3)) :=
    (((KV.out.mono zi).trans ((Keep.setCell rX).mono zi)).trans (K3.out.mono zi)).trans ((Keep.setCell Vy).mono zi)
   refine ni.snoc ((H4.out.mono fun _ _ h=>h.later hc1).mono fun _ _ h=>bN.kept h kk zd zd) ?_;rw [HRR.out];exact bN.kept HV1.out kk zd zd
  ·have kk:Keep [114,105,108] w1 (w3.setCell ⟨w.heap.size+1,1,none⟩ (.slice (some ⟨g3,0,none⟩) (pre.length+1) c3)) :=
    (((KV.out.mono zi).trans ((Keep.setCell rX).mono zi)).trans (K3.out.mono zi)).trans ((Keep.setCell Vy).mono zi)
   refine ni.snoc ((H5.out.mono fun _ _ h=>h.later hc1).mono fun _ _ h=>cK.aK.kept h kk zd) ?_;rw [HRR.out];exact cK.aK.kept qZ.out kk zd
 case done =>
  rintro D ys W hD rfl ⟨⟨hI,hb0⟩,hB⟩ hK;obtain ⟨va,na,ca,vb,nb,cb,xs,bs,hT,ho1,ho2,h4,h5⟩:=hI;have cT:=hT.cell;have fT:=hT.free;have c0:=hb0.cell;have f0:=hb0.free;have is0:=hb0.rX;have H4:=zh (CO (R:=fun zs r=>bN W r zs) dX m HLM.out h4);have H5:=zh (CO (R:=fun d r=>aK W r d) bI m HLM.out h5);have Xb:=zh (Row.dN ho1);have kK:=zh (Row.dN ho2);have HFT:=zh (H7 (s:=.slice vb nb cb) ho1);clear h4 h5 ho1 ho2
  gi_wp2
  have hK':=((KeepsOthers.setCell W ⟨w.heap.size,0,none⟩ (.slice va na ca)).trans (KeepsOthers.setCell _ ⟨w.heap.size,1,none⟩ (.slice vb nb cb))).same D _ hK rfl;refine ⟨by simp,.inl ⟨_,_,rfl,run_takeDeferred hK',?_⟩⟩
  have hk5:Keep [105] W (((W.setCell ⟨w.heap.size,0,none⟩ (.slice va na ca)).setCell ⟨w.heap.size,1,none⟩ (.slice vb nb cb)).putObj D (.deferred none)) :=
   ((Keep.setCell is0).trans (Keep.setCell is0.setCell)).trans ((Keep.others (grownBy_putObj' _ D (.deferred none)) (fun r e=>by cases e;exact ⟨_,hK',rfl⟩)).mono zi)
  have hb3:=dK ((hb0.set 0 (.slice va na ca)).set 1 (.slice vb nb cb)) (grownBy_putObj' _ D (.deferred none)) (fun r e=>by cases e;exact ⟨_,hK',rfl⟩);refine ⟨_,results_cell_row rfl _ _ w.heap.size 105 _ (0,0) _ rfl hb3 Tryz.underlying105 rfl zk,⟨_,rfl,?_,⟨_,_,_,_,_,_,rfl,⟨xs,cK.Row.kept Xb.out hk5 zd,H4.out.mono fun _ _ h=>bN.kept h hk5 zd zd⟩,⟨bs,cK.Row.kept kK.out hk5 zd,H5.out.mono fun _ _ h=>cK.aK.kept h hk5 zd⟩⟩,HFT.out⟩⟩;exact ((hB.setCell zi _).setCell zi _).trans (belowK_b (w:=w) (Nat.le_refl _) _ D _ _ (by have:=hB0.size;omega) hK' rfl rfl)
 case stop =>
  rintro D c pre W _ _ h _;exact h.elim
theorem rC (v:Value) (m:RM) (w:World) (h:aN w v m.fr) (hm:m.length≤4) (hq:∀ r∈m,r.length≤4∧∀ q∈r,iR q=true) :
  Calls Tryz.prog 62 #[v] w fun e w'=>∃ v,e= .returned v∧Below w.heap.size w w'∧au0 w' v m :=
 (Gu v m w h hm hq).mono fun _ _ ⟨v,h1,h2,h3,_⟩=>⟨v,h1,h2,h3⟩
attribute [local go_sem] Oper.semAt_some
def kU (w:World) (g:Nat) (T:TypeId) (n:Nat) (D:Nat→Prop) (f:Nat→Fr):Prop :=
 ∃ arr,au w g arr T∧arr.size=n*2∧∀ i,i<n→D i→arr[i*2]? =some (.string (f i).n)∧arr[i*2+1]? =some (.string (f i).d)
theorem kU.kept {w w':World} {g:Nat} {T:TypeId} {n:Nat} {D:Nat→Prop} {f:Nat→Fr} (h:kU w g T n D f) (k:Keep [] w w'):kU w' g T n D f:=by
 obtain ⟨arr,h1,h2⟩:=h;exact ⟨arr,k _ _ _ zi h1,h2⟩
theorem kU.cells {w:World} {g:Nat} {T:TypeId} {n j:Nat} {D:Nat→Prop} {f:Nat→Fr} (h:kU w g T n D f) (hj:j<n) :
  (∃ x,w.cell? ⟨g,j*2,none⟩=some x)∧(∃ y,w.cell? ⟨g,j*2+1,none⟩=some y)∧(∀ o,w.frozen? ⟨g,o,none⟩=false)∧g<w.heap.size:=by
 obtain ⟨arr,h1,h2,h3⟩:=h;refine ⟨⟨arr[j*2]'zo,?_⟩,⟨arr[j*2+1]'zo,?_⟩,h1.free,h1.lt⟩
 ·rw [h1.cell];exact Array.getElem?_eq_getElem _
 ·rw [h1.cell];exact Array.getElem?_eq_getElem _
theorem kU.put {w:World} {g n j:Nat} {T:TypeId} {D D':Nat→Prop} {f:Nat→Fr} {s t:ByteArray} (h:kU w g T n D f) (hj:j<n) (hs:s=(f j).n) (ht:t=(f j).d) (hD:∀ i,D' i→i=j∨D i) :
  kU ((w.setCell ⟨g,j*2,none⟩ (.string s)).setCell ⟨g,j*2+1,none⟩ (.string t)) g T n D' f:=by
 subst hs ht;obtain ⟨arr,h1,h2,h3⟩:=h;refine ⟨(arr.setIfInBounds (j*2) (.string (f j).n)).setIfInBounds (j*2+1) (.string (f j).d),(h1.set _ _).set _ _,by simp [h2],fun i hi hd=>?_⟩
 by_cases e:i=j
 ·subst e;refine ⟨?_,?_⟩
  ·rw [Array.getElem?_setIfInBounds,if_neg zo,Array.getElem?_setIfInBounds,if_pos rfl,if_pos zo]
  ·rw [Array.getElem?_setIfInBounds,if_pos rfl,if_pos (by simp;omega)]
 ·obtain ⟨k1,k2⟩:=h3 i hi ((hD i hd).resolve_left e);refine ⟨?_,?_⟩
  ·rw [Array.getElem?_setIfInBounds,if_neg zo,Array.getElem?_setIfInBounds,if_neg zo,k1]
  ·rw [Array.getElem?_setIfInBounds,if_neg zo,Array.getElem?_setIfInBounds,if_neg zo,k2]
theorem kU.start {w:World} {base g n:Nat} {T:TypeId} {z:Array Value} {f:Nat→Fr} (h:w.ownsRow base T 2 (.slice (some ⟨g,0,none⟩) n n) n (madeCells z (n*2)).toList):kU w g T n (fun _=>False) f:=by
 obtain ⟨arr,h1,h2, -⟩:=Fill.start (ok:=vN f) h;exact ⟨arr,h1,h2,fun i _ h=>h.elim⟩
theorem kU.Sc {w:World} {g n:Nat} {T:TypeId} {D:Nat→Prop} {l:List Fr} (h:kU w g T n D (fun i=>l.getD i Fr.no)) (hD:∀ i,i<n→D i) (hn:l.length=n) (hl:n≤1000000):gX w T (.slice (some ⟨g,0,none⟩) n n) l:=by
 obtain ⟨arr,h1,h2,h3⟩:=h;refine Fill.Sc ⟨arr,h1,h2,fun i hi=>?_⟩ hn hl;obtain ⟨k1,k2⟩:=h3 i hi (hD i hi);exact ⟨_,_,k1,k2,rfl,rfl⟩
theorem getD_lt {α:Type} {l:List α} {c:Nat} {d:α} (h:c<l.length):l.getD c d=l[c]:=by simp [h]
def BQ (m:List (List Fr)) (c:Nat):List Fr:=m.map fun r=>r.getD c Fr.no
theorem kU.yT {w:World} {g n:Nat} {T:TypeId} {cs:Array Value} {f:Nat→Fr} (h:au w g cs T) (hs:cs.size=n*2):kU w g T n (fun _=>False) f:=⟨cs,h,hs,fun i _ h=>h.elim⟩
theorem zF (n:Nat) (hn:n≤1000):∃ cs:Array Value,cs.size=n*2∧∀ W:World,(Instr.makeSlice 29 (.int .i64 (n:Int)) (.int .i64 (n:Int))).run Tryz.prog W= .ok (.slice (some ⟨W.heap.size,0,none⟩) n n) (W.alloc (.cells cs 59)):=by
 obtain ⟨i0,hi,hz0,hz1,hz2⟩:=info_parts tC;refine ⟨madeCells (Value.agg #[.string ⟨#[]⟩,.string ⟨#[]⟩]).cells (n*2),size_madeCells _ _,fun W=>?_⟩;have:=run_makeSlice (P:=Tryz.prog) W 29 59 i0 (.agg #[.string ⟨#[]⟩,.string ⟨#[]⟩]) Tryz.underlying29 hi hz0 .i64 .i64 (n:Int) (n:Int) zo (Int.le_refl _) (by rw [hz1];simp;omega) (by rw [hz2];omega) zo;rw [hz1] at this
 simpa using this
theorem yO (bm c:Nat) (v:Value) (m:List (List Fr)) (w:World) (h:aN w v m) (hb:au w bm #[v] 23) (hm:m.length≤4) (hc:∀ r∈m,c<r.length) :
  Calls Tryz.prog 114 #[.int .i64 (c:Int),.pointer (some ⟨bm,0,none⟩)] w (fun e w'=>∃ v',e= .returned v'∧Below w.heap.size w w'∧gX w' 59 v' (BQ m c)):=by
 obtain ⟨i0,hi,hz0,hz1,hz2⟩:=info_parts tC;obtain ⟨rs,hR,hlen,hF⟩:=h;obtain ⟨f,Ef⟩:∃ f:Nat→Fr,Hid ((fun i=>(BQ m c).getD i Fr.no)=f):=⟨_,zh rfl⟩
 have KJ:Hid (∀ i (h:i<rs.length),gX w 59 rs[i] (m.getD i [])∧c<(m.getD i []).length∧f i=(m.getD i []).getD c Fr.no):=zh fun i hi=>by
  have him:i<m.length:=by omega
  have e:m.getD i []=m[i]:=by simp [him]
  rw [e];exact ⟨hF i hi him,hc _ (List.getElem_mem _),by rw [← Ef.out];simp [BQ,him]⟩
 have HCL:Hid ((BQ m c).length=rs.length):=zh (by rw [hlen];simp [BQ]);have HR:=zh hR;obtain ⟨a,cap,rfl, -⟩:=hR;have HLM:Hid (rs.length≤4):=zh zo;have hl4:rs.length≤4:=by omega
 have cbm:=hb.cell;have lbm:=hb.lt;have aJ6:bm<w.heap.size+1:=by omega
 have aJ5:bm<w.heap.size+1+1:=by omega
 have Ut:=zh hb;clear hF hlen hc hb;refine (callsIn_wide (n:=3)).1 ?_;refine callsIn_of_wp_marks Tryz.func114 rfl trivial ?_ rfl;simp only [Tryz.ntmps114,List.size_toArray,List.length_cons,List.length_nil,Nat.reduceAdd,Nat.reduceSub,Array.replicate_succ,Array.replicate_zero,List.push_toArray,List.append_toArray,List.nil_append,List.cons_append];obtain ⟨cs,hcs,hmk⟩:=zF rs.length zo;have FV:=zh hcs;clear hcs
 gi_wp2_with (refine ⟨trivial,?_⟩;gi_at_call 58;refine (ug Fence.wide 2 trivial rfl _ _ _ _).mono ?_;rintro e w' ⟨rfl,rfl⟩)
 clear hmk;obtain ⟨W0,hW0⟩:∃ W0,(((w.alloc (.cells #[.int .i64 (c:Int)] 3)).alloc (.cells cs 59)).alloc (.cells #[.slice (some ⟨w.heap.size+1,0,none⟩) rs.length rs.length] 29)).alloc (.cells #[.slice a rs.length cap] 23)=W0:=⟨_,rfl⟩;have hB0:Below w.heap.size w W0:=by rw [← hW0];exact ah
 have hbx0:au W0 w.heap.size #[.int .i64 (c:Int)] 3:=by rw [← hW0];exact aT
 have xW:au W0 (w.heap.size+1) cs 59:=by rw [← hW0];exact aT
 have xV:au W0 (w.heap.size+1+1) #[.slice (some ⟨w.heap.size+1,0,none⟩) rs.length rs.length] 29:=by rw [← hW0];exact aT
 have R3:au W0 (w.heap.size+1+1+1) #[.slice a rs.length cap] 23:=by rw [← hW0];exact au.at3 _ _ _ _ _ _
 rw [hW0];clear hW0 cbm
 refine wpIn_rangeFunc_ownF (α:=Fin rs.length) rfl zo (gf:=115) (lb:=#[.pointer (some ⟨w.heap.size+1+1+1,0,none⟩)]) rfl trivial (enters_of Tryz.func115 zk rfl)
  (nK Fence.wide 2 trivial rfl zo (w.heap.size+1+1+1) w.heap.size _ rs w _ R3.lt hB0.size ((R3.cell 0).trans rfl) HR.out (Nat.le_refl _) hB0) belowK_t (belowK_b hB0.size) (Below.refl _ _) (fun _=>rfl)
  (fun pre W=>(kU W (w.heap.size+1) 59 rs.length (fun i=>∃ x∈pre,x.1=i) f∧au W w.heap.size #[.int .i64 (c:Int)] 3∧au W (w.heap.size+1+1) #[.slice (some ⟨w.heap.size+1,0,none⟩) rs.length rs.length] 29)∧Below w.heap.size w W)
  (fun _ _ _=>False)
  (OwnFrom.and (Own.from (fun s A B row hs hg hr=>⟨hs.1.kept (Keep.others hg hr),dK hs.2.1 hg hr,dK hs.2.2 hg hr⟩) _) (ownFrom_below (Nat.le_refl _) hB0.size))
  (fun _ _ _ _ _ hs _ _=>hs)
  ⟨⟨?f0,hbx0,xV⟩,hB0⟩ ?a1 ?assign ?body ?done ?stop
 case f0 =>
  obtain ⟨arr,k1,k2,k3⟩:=kU.yT (f:=f) xW FV.out;exact ⟨arr,k1,k2,fun i hi ⟨x,hx,_⟩=>by cases hx⟩
 case assign =>
  intro l x W K hK;unfold enc
  gi_wp2
  exact hK
 case body =>
  rintro l pre x W ⟨⟨hF,hb0,hb2⟩,hB⟩ hpl;obtain ⟨hfr,hcl,ap9⟩:=KJ.out x.1 x.2;obtain ⟨a',cap',hre,aM1,aM0,hread⟩:=hfr.read;obtain ⟨b,off,rfl,lb,hx1,hx2⟩:=hread c hcl;have Pm:=(hB.cell (p:=⟨b,off+c*2,none⟩) lb).trans hx1;have Pk:=(hB.cell (p:=⟨b,off+c*2+1,none⟩) lb).trans hx2;have hgd:(m.getD x.1 [])[c]=f x.1:=(ap9.trans (getD_lt hcl)).symm;rw [hgd] at Pm Pk;have c0:=hb0.cell;have c2:=hb2.cell;have lbW:=Nat.lt_of_lt_of_le lb hB.size;have LK:=x.2;have HF:=zh hF;obtain ⟨s1,O8⟩:∃ s:ByteArray,Hid ((f x.1).n=s):=⟨_,zh rfl⟩;obtain ⟨s2,O7⟩:∃ s:ByteArray,Hid ((f x.1).d=s):=⟨_,zh rfl⟩;rw [O8.out] at Pm;rw [O7.out] at Pk;clear hfr ap9 hread hx1 hx2 hgd hF;generalize rs[x.1]=rx at *;subst hre;generalize (m.getD x.1 []).length=n' at *;refine wpIn_block ?_
  refine vO [(.read,0),(.pure,1),(.pure,2),(.read,3),(.pure,4),(.read,5),(.pure,6),(.fin,7)] zk zk zk zR (fun ⟨_,_,h⟩=>h) (fun _ _ _ _ _ h=>h) ?_;refine zV ?_;refine aL [_] rfl (fun w2 hbd=>?_);have hb2':Below W.heap.size W w2:=dL (Below.drew (Below.refl _ _)) hbd;have hF2:=HF.out.kept (Keep.of_below hb2');have HF2:=zh hF2;obtain ⟨⟨y1,BO⟩,⟨y2,Oq⟩,fy,ly⟩:=hF2.cells LK;have aA9:=hb0.later hb2';have aA8:=au.later hb2 hb2';clear hF2;go_wp2_with fail
  refine ⟨((dQ hb2').trans (KeepsOthers.setCell _ _ _)).trans (KeepsOthers.setCell _ _ _),((hb2'.mono hB.size).setCell zi _).setCell zi _,⟨HF2.out.put LK O8.out.symm O7.out.symm ?_,(aA9.setOther _ zi).setOther _ zi,(aA8.setOther _ zi).setOther _ zi⟩,((hB.trans (hb2'.mono hB.size)).setCell zi _).setCell zi _⟩;rintro i ⟨y,hy,rfl⟩
  rcases List.mem_append.1 hy with h|h
  ·exact .inr ⟨y,h,rfl⟩
  ·rw [List.mem_singleton] at h;exact .inl (by rw [h])
 case done =>
  rintro D ys W hD rfl ⟨⟨hF,hb0,hb2⟩,hB⟩ hK;have c2:=hb2.cell;have HF:=zh hF;clear hF
  gi_wp2
  refine ⟨by simp,.inl ⟨_,_,rfl,run_takeDeferred hK,?_⟩⟩;have hF2:=HF.out.kept (Keep.others (grownBy_putObj' _ D (.deferred none)) (fun r e=>by cases e;exact ⟨_,hK,rfl⟩));refine ⟨.slice (some ⟨w.heap.size+1,0,none⟩) rs.length rs.length,?_,_,rfl,hB.trans (belowK_b (w:=w) (Nat.le_refl _) W D _ _ (by have:=hB0.size;omega) hK rfl rfl),?_⟩
  ·simp [results,Tryz.f114,go_sem]
  ·rw [← Ef.out] at hF2;exact hF2.Sc (fun i hi=>⟨⟨i,hi⟩,by unfold upto;rw [List.mem_ofFn];exact ⟨⟨i,hi⟩,rfl⟩,rfl⟩) HCL.out (by have:=HLM.out;omega)
 case stop =>
  rintro D c pre W _ _ h _;exact h.elim
theorem aN.first {w:World} {v:Value} {m:List (List Fr)} (h:aN w v m) (h0:0<m.length) :
  ∃ b off cap a0 cap0,v= .slice (some ⟨b,off,none⟩) m.length cap∧m.length≤cap∧b<w.heap.size∧w.cell? ⟨b,off,none⟩=some (.slice a0 (m.headD []).length cap0):=by
 obtain ⟨rs,hR,hlen,hF⟩:=h
 rcases hR.cases with ⟨rfl,rfl⟩|⟨b,off,cap,arr,rfl,k1,k2,k3,k4⟩
 ·simp at hlen;omega
 ·have h0r:0<rs.length:=by omega
  obtain ⟨a0,cap0,e0, -⟩:=(hF 0 h0r zo).read;refine ⟨b,off,cap,a0,cap0,by rw [hlen],by omega,k3.lt,?_⟩;have:=(k3.cell (off+0)).trans (k4 0 h0r);rw [e0] at this;cases m with
  | nil=>simp at h0
  | cons r t=>simpa using this
theorem zD (n:Nat) (hn:n≤1000):∃ cs:Array Value,cs.size=n∧∀ W:World,(Instr.makeSlice 23 (.int .i64 (n:Int)) (.int .i64 (n:Int))).run Tryz.prog W= .ok (.slice (some ⟨W.heap.size,0,none⟩) n n) (W.alloc (.cells cs 29)):=by
 obtain ⟨i0,hi,hz0,hz1,hz2⟩:=info_parts Rs;refine ⟨madeCells (Value.slice none 0 0).cells n,size_madeCells _ _,fun W=>?_⟩;have:=run_makeSlice (P:=Tryz.prog) W 23 29 i0 (.slice none 0 0) Tryz.underlying23 hi hz0 .i64 .i64 (n:Int) (n:Int) zo (Int.le_refl _) (by rw [hz1];simp;omega) (by rw [hz2];omega) zo;rw [hz1] at this
 simpa using this
theorem fK.yT {w:World} {g n:Nat} {cs:Array Value} {f:Nat→List Fr} (h:au w g cs 29) (hs:cs.size=n):fK w g n 0 f:=⟨cs,h,hs,fun i h=>by omega⟩
def jB (m:List (List Fr)) (n:Nat):List (List Fr):=(List.range n).map (BQ m)
theorem sF (v:Value) (m:List (List Fr)) (n:Nat) (w:World) (h:aN w v m) (h1:1≤m.length) (h4:m.length≤4) (n4:n≤4) (hn:∀ r∈m,r.length=n) :
  Calls Tryz.prog 56 #[v] w (fun e w'=>∃ v',e= .returned v'∧Below w.heap.size w w'∧aN w' v' (jB m n)):=by
 obtain ⟨b,off,cap,a0,cap0,rfl,hcap,lb,hc0⟩:=aN.first h zo
 have hhd:(m.headD []).length=n:=by
  cases m with
  | nil=>simp at h1
  | cons r t=>exact hn r zi
 rw [hhd] at hc0;have HT:=zh (fun bm c w' (hb:Below w.heap.size w w') (hc:c<n) (hx:au w' bm #[.slice (some ⟨b,off,none⟩) m.length cap] 23)=>yO bm c _ m w' (h.later hb) hx h4 (fun r hr=>by rw [hn r hr];exact hc));obtain ⟨cs,hcs,hmk⟩:=zD n zo;have FV:=zh hcs;have lb1:b<w.heap.size+1:=by omega
 have hmf:∀ (fn:Fn) (first cap:Array Value) (w:World),(Instr.makeFunc fn first cap).run Tryz.prog w= .ok (.func fn first cap) w:=fun _ _ _ _=>rfl;have h0m:0<m.length:=by omega
 have HN4:=zh n4;clear h hn hcs;go_enter Tryz.func56,Tryz.ntmps56
 go_wp2_with fail
 obtain ⟨W0,hW0⟩:∃ W0,(w.alloc (.cells #[.slice (some ⟨b,off,none⟩) m.length cap] 23)).alloc (.cells cs 29)=W0:=⟨_,rfl⟩;have hB0:Below w.heap.size w W0:=by rw [← hW0];exact ah
 have HX0:Hid (au W0 w.heap.size #[.slice (some ⟨b,off,none⟩) m.length cap] 23):=zh (by rw [← hW0];exact aT);have xW:au W0 (w.heap.size+1) cs 29:=by rw [← hW0];exact aT
 have HM:=zh (fK.yT (f:=BQ m) xW FV.out);rw [hW0];clear hW0 xW hmk
 go_loopw [14] (fun iv wr=>∃ c:Nat,iv= .int .i64 (c:Int)∧c≤n∧Hid (fK wr (w.heap.size+1) n c (BQ m))∧Hid (au wr w.heap.size #[.slice (some ⟨b,off,none⟩) m.length cap] 23)∧Below w.heap.size w wr) (fun iv _=>n - (intOf iv).toNat)
 case atStart=>exact ⟨0,rfl,by omega,HM,HX0,hB0⟩
 case round =>
  clear HM HX0 hB0;obtain ⟨c,rfl,hcn,HM,HX,hb⟩:=hrel;have lM:=HM.out.lt
  rcases Nat.lt_or_ge c n with hlt|hge
  ·have hlt2:(c:Int)<(n:Int):=by omega
   go_wp2_with fail
   refine (HT.out _ c _ hb hlt HX.out).mono ?_;rintro e w2 ⟨v',rfl,hc2,hfr⟩;obtain ⟨a',cap',rfl, -⟩:=hfr.read;have KJ:=zh hfr;have hM2:=HM.out.later hc2;obtain ⟨⟨y1,BO⟩,fy⟩:=hM2.cell hlt;have OX:=zh hM2;have lM2:=hM2.lt;have isM:=hM2.rX;have hx2:=HX.out.later hc2;clear hM2 hfr;go_wp2_with fail
   go_roundw
   case rel =>
    refine ⟨c+1,by go_num,by omega,zh (OX.out.step hlt ((fM.refl w2 _).set c _) (fun arr hA=>hA.set c _) (KJ.out.kept (Keep.setCell isM) zd)),zh (hx2.setOther _ zi),(Bt hb hc2).setCell zi _⟩
   case measure=>exact zM
  ·have hnc:n=c:=by omega
   subst hnc
   have hmv:aN wr (.slice (some ⟨w.heap.size+1,0,none⟩) n n) (jB m n):=by
    have e1:(jB m n).length=n:=by simp [jB]
    have:aN wr (.slice (some ⟨w.heap.size+1,0,none⟩) (jB m n).length (jB m n).length) (jB m n):=by
     refine fK.JF ?_ (by have:=HN4.out;omega);rw [e1];obtain ⟨arr,k1,k2,k3⟩:=HM.out;refine ⟨arr,k1,k2,fun i hi=>?_⟩;have e2:(jB m n).getD i []=BQ m i:=by simp [jB,hi]
     show ∃ v,arr[i]? =some v∧gX wr 59 v ((jB m n).getD i [])
     rw [e2];exact k3 i hi
    rw [e1] at this;exact this
   have HMV:=zh hmv;clear hmv;go_wp2_with fail
   go_ret
   exact ⟨_,rfl,hb,HMV.out⟩
end Go.Proofs.matrix
