/- Lemmas for the proof. No condition. -/
import Derived.Test.YtfhappbmgghgdaaGreatDoorNB01
import Derived.Test.YtfhappbmgghgdaaGreatDoorNB02
import Derived.Test.YtfhappbmgghgdaaGreatDoorNB03
import Derived.Test.YtfhappbmgghgdaaGreatDoorNB10
import Derived.Laws.CopyOwn
set_option linter.unusedVariables false
set_option linter.unusedSimpArgs false
set_option maxRecDepth 100000
set_option maxHeartbeats 16000000
namespace Go.Proofs.matrix
open Go Go.RowKit Go.Shelf Go.SW Go.Num Go.Mem Go.Proofs Go.Dec Go.Fra
attribute [local go_sem] Oper.semAt_some
def FillP (w:World) (g:Nat) (T:TypeId) (n:Nat) (D:Nat→Prop) (f:Nat→Fr):Prop :=
 ∃ arr,Box w g arr T∧arr.size=n*2∧∀ i,i<n→D i→arr[i*2]? =some (.string (f i).n)∧arr[i*2+1]? =some (.string (f i).d)
theorem FillP.kept {w w':World} {g:Nat} {T:TypeId} {n:Nat} {D:Nat→Prop} {f:Nat→Fr} (h:FillP w g T n D f) (k:Keep [] w w'):FillP w' g T n D f:=by
 obtain ⟨arr,h1,h2⟩:=h
 exact ⟨arr,k _ _ _ zi h1,h2⟩
theorem FillP.cells {w:World} {g:Nat} {T:TypeId} {n j:Nat} {D:Nat→Prop} {f:Nat→Fr} (h:FillP w g T n D f) (hj:j<n) :
  (∃ x,w.cell? ⟨g,j*2,none⟩=some x)∧(∃ y,w.cell? ⟨g,j*2+1,none⟩=some y)∧(∀ o,w.frozen? ⟨g,o,none⟩=false)∧g<w.heap.size:=by
 obtain ⟨arr,h1,h2,h3⟩:=h
 refine ⟨⟨arr[j*2]'zo,?_⟩,⟨arr[j*2+1]'zo,?_⟩,h1.free,h1.lt⟩
 ·rw [h1.cell];exact Array.getElem?_eq_getElem _
 ·rw [h1.cell];exact Array.getElem?_eq_getElem _
theorem FillP.put {w:World} {g n j:Nat} {T:TypeId} {D D':Nat→Prop} {f:Nat→Fr} {s t:ByteArray} (h:FillP w g T n D f) (hj:j<n) (hs:s=(f j).n) (ht:t=(f j).d) (hD:∀ i,D' i→i=j∨D i) :
  FillP ((w.setCell ⟨g,j*2,none⟩ (.string s)).setCell ⟨g,j*2+1,none⟩ (.string t)) g T n D' f:=by
 subst hs ht
 obtain ⟨arr,h1,h2,h3⟩:=h
 refine ⟨(arr.setIfInBounds (j*2) (.string (f j).n)).setIfInBounds (j*2+1) (.string (f j).d),(h1.set _ _).set _ _,by simp [h2],fun i hi hd=>?_⟩
 by_cases e:i=j
 ·subst e
  refine ⟨?_,?_⟩
  ·rw [Array.getElem?_setIfInBounds,if_neg zo,Array.getElem?_setIfInBounds,if_pos rfl,if_pos zo]
  ·rw [Array.getElem?_setIfInBounds,if_pos rfl,if_pos (by simp;omega)]
 ·obtain ⟨k1,k2⟩:=h3 i hi ((hD i hd).resolve_left e)
  refine ⟨?_,?_⟩
  ·rw [Array.getElem?_setIfInBounds,if_neg zo,Array.getElem?_setIfInBounds,if_neg zo,k1]
  ·rw [Array.getElem?_setIfInBounds,if_neg zo,Array.getElem?_setIfInBounds,if_neg zo,k2]
theorem FillP.start {w:World} {base g n:Nat} {T:TypeId} {z:Array Value} {f:Nat→Fr} (h:w.ownsRow base T 2 (.slice (some ⟨g,0,none⟩) n n) n (madeCells z (n*2)).toList):FillP w g T n (fun _=>False) f:=by
 obtain ⟨arr,h1,h2, -⟩:=Fill.start (ok:=FrC f) h
 exact ⟨arr,h1,h2,fun i _ h=>h.elim⟩
theorem FillP.frs {w:World} {g n:Nat} {T:TypeId} {D:Nat→Prop} {l:List Fr} (h:FillP w g T n D (fun i=>l.getD i Fr.no)) (hD:∀ i,i<n→D i) (hn:l.length=n) (hl:n≤1000000):Frs w T (.slice (some ⟨g,0,none⟩) n n) l:=by
 obtain ⟨arr,h1,h2,h3⟩:=h
 refine Fill.frs ⟨arr,h1,h2,fun i hi=>?_⟩ hn hl
 obtain ⟨k1,k2⟩:=h3 i hi (hD i hi)
 exact ⟨_,_,k1,k2,rfl,rfl⟩
theorem getD_lt {α:Type} {l:List α} {c:Nat} {d:α} (h:c<l.length):l.getD c d=l[c]:=by simp [h]
def colM (m:List (List Fr)) (c:Nat):List Fr:=m.map fun r=>r.getD c Fr.no
theorem FillP.start2 {w:World} {g n:Nat} {T:TypeId} {cs:Array Value} {f:Nat→Fr} (h:Box w g cs T) (hs:cs.size=n*2):FillP w g T n (fun _=>False) f:=⟨cs,h,hs,fun i _ h=>h.elim⟩
theorem made_frs (n:Nat) (hn:n≤1000):∃ cs:Array Value,cs.size=n*2∧∀ W:World,(Instr.makeSlice 29 (.int .i64 (n:Int)) (.int .i64 (n:Int))).run Tryz.prog W= .ok (.slice (some ⟨W.heap.size,0,none⟩) n n) (W.alloc (.cells cs 59)):=by
 obtain ⟨i0,hi,hz0,hz1,hz2⟩:=info_parts infoFr
 refine ⟨madeCells (Value.agg #[.string ⟨#[]⟩,.string ⟨#[]⟩]).cells (n*2),size_madeCells _ _,fun W=>?_⟩
 have:=run_makeSlice (P:=Tryz.prog) W 29 59 i0 (.agg #[.string ⟨#[]⟩,.string ⟨#[]⟩]) Tryz.underlying29 hi hz0 .i64 .i64 (n:Int) (n:Int) zo (Int.le_refl _) (by rw [hz1];simp;omega) (by rw [hz2];omega) zo
 rw [hz1] at this
 simpa using this
theorem transposed1_ok (bm c:Nat) (v:Value) (m:List (List Fr)) (w:World) (h:MatV w v m) (hb:Box w bm #[v] 23) (hm:m.length≤4) (hc:∀ r∈m,c<r.length) :
  Calls Tryz.prog 114 #[.int .i64 (c:Int),.pointer (some ⟨bm,0,none⟩)] w (fun e w'=>∃ v',e= .returned v'∧Below w.heap.size w w'∧Frs w' 59 v' (colM m c)):=by
 obtain ⟨i0,hi,hz0,hz1,hz2⟩:=info_parts infoFr
 obtain ⟨rs,hR,hlen,hF⟩:=h
 obtain ⟨f,Ef⟩:∃ f:Nat→Fr,Hid ((fun i=>(colM m c).getD i Fr.no)=f):=⟨_,zh rfl⟩
 have HFR:Hid (∀ i (h:i<rs.length),Frs w 59 rs[i] (m.getD i [])∧c<(m.getD i []).length∧f i=(m.getD i []).getD c Fr.no):=zh fun i hi=>by
  have him:i<m.length:=by omega
  have e:m.getD i []=m[i]:=by simp [him]
  rw [e]
  exact ⟨hF i hi him,hc _ (List.getElem_mem _),by rw [← Ef.out];simp [colM,him]⟩
 have HCL:Hid ((colM m c).length=rs.length):=zh (by rw [hlen];simp [colM])
 have HR:=zh hR
 obtain ⟨a,cap,rfl, -⟩:=hR
 have HLM:Hid (rs.length≤4):=zh zo
 have hl4:rs.length≤4:=by omega
 have cbm:=hb.cell
 have lbm:=hb.lt
 have lbm1:bm<w.heap.size+1:=by omega
 have lbm2:bm<w.heap.size+1+1:=by omega
 have HBM:=zh hb
 clear hF hlen hc hb
 refine (callsIn_wide (n:=3)).1 ?_
 refine callsIn_of_wp_marks Tryz.func114 rfl trivial ?_ rfl
 simp only [Tryz.ntmps114,List.size_toArray,List.length_cons,List.length_nil,Nat.reduceAdd,Nat.reduceSub,Array.replicate_succ,Array.replicate_zero,List.push_toArray,List.append_toArray,List.nil_append,List.cons_append]
 obtain ⟨cs,hcs,hmk⟩:=made_frs rs.length zo
 have HCS:=zh hcs
 clear hcs
 gi_wp2_with (refine ⟨trivial,?_⟩;gi_at_call 58;refine (visit_in Fence.wide 2 trivial rfl _ _ _ _).mono ?_;rintro e w' ⟨rfl,rfl⟩)
 clear hmk
 obtain ⟨W0,hW0⟩:∃ W0,(((w.alloc (.cells #[.int .i64 (c:Int)] 3)).alloc (.cells cs 59)).alloc (.cells #[.slice (some ⟨w.heap.size+1,0,none⟩) rs.length rs.length] 29)).alloc (.cells #[.slice a rs.length cap] 23)=W0:=⟨_,rfl⟩
 have hB0:Below w.heap.size w W0:=by rw [← hW0];exact belA
 have hbx0:Box W0 w.heap.size #[.int .i64 (c:Int)] 3:=by rw [← hW0];exact boxA
 have hbx1:Box W0 (w.heap.size+1) cs 59:=by rw [← hW0];exact boxA
 have hbx2:Box W0 (w.heap.size+1+1) #[.slice (some ⟨w.heap.size+1,0,none⟩) rs.length rs.length] 29:=by rw [← hW0];exact boxA
 have hbx3:Box W0 (w.heap.size+1+1+1) #[.slice a rs.length cap] 23:=by rw [← hW0];exact Box.at3 _ _ _ _ _ _
 rw [hW0]
 clear hW0 cbm
 refine wpIn_rangeFunc_ownF (α:=Fin rs.length) rfl zo (gf:=115) (lb:=#[.pointer (some ⟨w.heap.size+1+1+1,0,none⟩)]) rfl trivial (enters_of Tryz.func115 zk rfl)
  (visit_stops Fence.wide 2 trivial rfl zo (w.heap.size+1+1+1) w.heap.size _ rs w _ hbx3.lt hB0.size ((hbx3.cell 0).trans rfl) HR.out (Nat.le_refl _) hB0) belowK_t (belowK_b hB0.size) (Below.refl _ _) (fun _=>rfl)
  (fun pre W=>(FillP W (w.heap.size+1) 59 rs.length (fun i=>∃ x∈pre,x.1=i) f∧Box W w.heap.size #[.int .i64 (c:Int)] 3∧Box W (w.heap.size+1+1) #[.slice (some ⟨w.heap.size+1,0,none⟩) rs.length rs.length] 29)∧Below w.heap.size w W)
  (fun _ _ _=>False)
  (OwnFrom.and (Own.from (fun s A B row hs hg hr=>⟨hs.1.kept (Keep.others hg hr),box_kept hs.2.1 hg hr,box_kept hs.2.2 hg hr⟩) _) (ownFrom_below (Nat.le_refl _) hB0.size))
  (fun _ _ _ _ _ hs _ _=>hs)
  ⟨⟨?f0,hbx0,hbx2⟩,hB0⟩ ?a1 ?assign ?body ?done ?stop
 case f0 =>
  obtain ⟨arr,k1,k2,k3⟩:=FillP.start2 (f:=f) hbx1 HCS.out
  exact ⟨arr,k1,k2,fun i hi ⟨x,hx,_⟩=>by cases hx⟩
 case assign =>
  intro l x W K hK
  unfold enc
  gi_wp2
  exact hK
 case body =>
  rintro l pre x W ⟨⟨hF,hb0,hb2⟩,hB⟩ hpl
  obtain ⟨hfr,hcl,hcol⟩:=HFR.out x.1 x.2
  obtain ⟨a',cap',hre,hcc1,hcc2,hread⟩:=hfr.read
  obtain ⟨b,off,rfl,lb,hx1,hx2⟩:=hread c hcl
  have cx1:=(hB.cell (p:=⟨b,off+c*2,none⟩) lb).trans hx1
  have cx2:=(hB.cell (p:=⟨b,off+c*2+1,none⟩) lb).trans hx2
  have hgd:(m.getD x.1 [])[c]=f x.1:=(hcol.trans (getD_lt hcl)).symm
  rw [hgd] at cx1 cx2
  have c0:=hb0.cell
  have c2:=hb2.cell
  have lbW:=Nat.lt_of_lt_of_le lb hB.size
  have hxr:=x.2
  have HF:=zh hF
  obtain ⟨s1,Es1⟩:∃ s:ByteArray,Hid ((f x.1).n=s):=⟨_,zh rfl⟩
  obtain ⟨s2,Es2⟩:∃ s:ByteArray,Hid ((f x.1).d=s):=⟨_,zh rfl⟩
  rw [Es1.out] at cx1
  rw [Es2.out] at cx2
  clear hfr hcol hread hx1 hx2 hgd hF
  generalize rs[x.1]=rx at *
  subst hre
  generalize (m.getD x.1 []).length=n' at *
  refine wpIn_block ?_
  refine wpIn_region_walk [(.read,0),(.pure,1),(.pure,2),(.read,3),(.pure,4),(.read,5),(.pure,6),(.fin,7)] zk zk zk zR (fun ⟨_,_,h⟩=>h) (fun _ _ _ _ _ h=>h) ?_
  repeat (first|(refine walk_pure0 rfl rfl fun J h=>?_;go_simp;refine h _ ?_;clear h J)|(refine walk_load rfl rfl rfl rfl fun J h=>?_;go_simp;refine h _ ?_;clear h J;try go_simp))
  refine walk_fin [_] rfl (fun w2 hbd=>?_)
  have hb2':Below W.heap.size W w2:=below_trans (Below.drew (Below.refl _ _)) hbd
  have hF2:=HF.out.kept (Keep.of_below hb2')
  have HF2:=zh hF2
  obtain ⟨⟨y1,cy1⟩,⟨y2,cy2⟩,fy,ly⟩:=hF2.cells hxr
  have hb0':=hb0.later hb2'
  have hb2c:=Box.later hb2 hb2'
  clear hF2
  go_wp2_with fail
  refine ⟨((keeps_of_below hb2').trans (KeepsOthers.setCell _ _ _)).trans (KeepsOthers.setCell _ _ _),((hb2'.mono hB.size).setCell zi _).setCell zi _,⟨HF2.out.put hxr Es1.out.symm Es2.out.symm ?_,(hb0'.setOther _ zi).setOther _ zi,(hb2c.setOther _ zi).setOther _ zi⟩,((hB.trans (hb2'.mono hB.size)).setCell zi _).setCell zi _⟩
  rintro i ⟨y,hy,rfl⟩
  rcases List.mem_append.1 hy with h|h
  ·exact .inr ⟨y,h,rfl⟩
  ·rw [List.mem_singleton] at h
   exact .inl (by rw [h])
 case done =>
  rintro D ys W hD rfl ⟨⟨hF,hb0,hb2⟩,hB⟩ hK
  have c2:=hb2.cell
  have HF:=zh hF
  clear hF
  gi_wp2
  refine ⟨by simp,.inl ⟨_,_,rfl,run_takeDeferred hK,?_⟩⟩
  have hF2:=HF.out.kept (Keep.others (grownBy_putObj' _ D (.deferred none)) (fun r e=>by cases e;exact ⟨_,hK,rfl⟩))
  refine ⟨.slice (some ⟨w.heap.size+1,0,none⟩) rs.length rs.length,?_,_,rfl,hB.trans (belowK_b (w:=w) (Nat.le_refl _) W D _ _ (by have:=hB0.size;omega) hK rfl rfl),?_⟩
  ·simp [results,Tryz.f114,go_sem]
  ·rw [← Ef.out] at hF2
   exact hF2.frs (fun i hi=>⟨⟨i,hi⟩,by unfold upto;rw [List.mem_ofFn];exact ⟨⟨i,hi⟩,rfl⟩,rfl⟩) HCL.out (by have:=HLM.out;omega)
 case stop =>
  rintro D c pre W _ _ h _
  exact h.elim
theorem MatV.first {w:World} {v:Value} {m:List (List Fr)} (h:MatV w v m) (h0:0<m.length) :
  ∃ b off cap a0 cap0,v= .slice (some ⟨b,off,none⟩) m.length cap∧m.length≤cap∧b<w.heap.size∧w.cell? ⟨b,off,none⟩=some (.slice a0 (m.headD []).length cap0):=by
 obtain ⟨rs,hR,hlen,hF⟩:=h
 rcases hR.cases with ⟨rfl,rfl⟩|⟨b,off,cap,arr,rfl,k1,k2,k3,k4⟩
 ·simp at hlen;omega
 ·have h0r:0<rs.length:=by omega
  obtain ⟨a0,cap0,e0, -⟩:=(hF 0 h0r zo).read
  refine ⟨b,off,cap,a0,cap0,by rw [hlen],by omega,k3.lt,?_⟩
  have:=(k3.cell (off+0)).trans (k4 0 h0r)
  rw [e0] at this
  cases m with
  | nil=>simp at h0
  | cons r t=>simpa using this
theorem made_mat (n:Nat) (hn:n≤1000):∃ cs:Array Value,cs.size=n∧∀ W:World,(Instr.makeSlice 23 (.int .i64 (n:Int)) (.int .i64 (n:Int))).run Tryz.prog W= .ok (.slice (some ⟨W.heap.size,0,none⟩) n n) (W.alloc (.cells cs 29)):=by
 obtain ⟨i0,hi,hz0,hz1,hz2⟩:=info_parts infoMr
 refine ⟨madeCells (Value.slice none 0 0).cells n,size_madeCells _ _,fun W=>?_⟩
 have:=run_makeSlice (P:=Tryz.prog) W 23 29 i0 (.slice none 0 0) Tryz.underlying23 hi hz0 .i64 .i64 (n:Int) (n:Int) zo (Int.le_refl _) (by rw [hz1];simp;omega) (by rw [hz2];omega) zo
 rw [hz1] at this
 simpa using this
theorem MFill.start2 {w:World} {g n:Nat} {cs:Array Value} {f:Nat→List Fr} (h:Box w g cs 29) (hs:cs.size=n):MFill w g n 0 f:=⟨cs,h,hs,fun i h=>by omega⟩
def transM (m:List (List Fr)) (n:Nat):List (List Fr):=(List.range n).map (colM m)
theorem transposed_ok (v:Value) (m:List (List Fr)) (n:Nat) (w:World) (h:MatV w v m) (h1:1≤m.length) (h4:m.length≤4) (n4:n≤4) (hn:∀ r∈m,r.length=n) :
  Calls Tryz.prog 56 #[v] w (fun e w'=>∃ v',e= .returned v'∧Below w.heap.size w w'∧MatV w' v' (transM m n)):=by
 obtain ⟨b,off,cap,a0,cap0,rfl,hcap,lb,hc0⟩:=MatV.first h zo
 have hhd:(m.headD []).length=n:=by
  cases m with
  | nil=>simp at h1
  | cons r t=>exact hn r zi
 rw [hhd] at hc0
 have HT:=zh (fun bm c w' (hb:Below w.heap.size w w') (hc:c<n) (hx:Box w' bm #[.slice (some ⟨b,off,none⟩) m.length cap] 23)=>transposed1_ok bm c _ m w' (h.later hb) hx h4 (fun r hr=>by rw [hn r hr];exact hc))
 obtain ⟨cs,hcs,hmk⟩:=made_mat n zo
 have HCS:=zh hcs
 have lb1:b<w.heap.size+1:=by omega
 have hmf:∀ (fn:Fn) (first cap:Array Value) (w:World),(Instr.makeFunc fn first cap).run Tryz.prog w= .ok (.func fn first cap) w:=fun _ _ _ _=>rfl
 have h0m:0<m.length:=by omega
 have HN4:=zh n4
 clear h hn hcs
 go_enter Tryz.func56,Tryz.ntmps56
 go_wp2_with fail
 obtain ⟨W0,hW0⟩:∃ W0,(w.alloc (.cells #[.slice (some ⟨b,off,none⟩) m.length cap] 23)).alloc (.cells cs 29)=W0:=⟨_,rfl⟩
 have hB0:Below w.heap.size w W0:=by rw [← hW0];exact belA
 have HX0:Hid (Box W0 w.heap.size #[.slice (some ⟨b,off,none⟩) m.length cap] 23):=zh (by rw [← hW0];exact boxA)
 have hbx1:Box W0 (w.heap.size+1) cs 29:=by rw [← hW0];exact boxA
 have HM:=zh (MFill.start2 (f:=colM m) hbx1 HCS.out)
 rw [hW0]
 clear hW0 hbx1 hmk
 go_loopw [14] (fun iv wr=>∃ c:Nat,iv= .int .i64 (c:Int)∧c≤n∧Hid (MFill wr (w.heap.size+1) n c (colM m))∧Hid (Box wr w.heap.size #[.slice (some ⟨b,off,none⟩) m.length cap] 23)∧Below w.heap.size w wr) (fun iv _=>n - (intOf iv).toNat)
 case atStart=>exact ⟨0,rfl,by omega,HM,HX0,hB0⟩
 case round =>
  clear HM HX0 hB0
  obtain ⟨c,rfl,hcn,HM,HX,hb⟩:=hrel
  have lM:=HM.out.lt
  rcases Nat.lt_or_ge c n with hlt|hge
  ·have hlt2:(c:Int)<(n:Int):=by omega
   go_wp2_with fail
   refine (HT.out _ c _ hb hlt HX.out).mono ?_
   rintro e w2 ⟨v',rfl,hc2,hfr⟩
   obtain ⟨a',cap',rfl, -⟩:=hfr.read
   have HFR:=zh hfr
   have hM2:=HM.out.later hc2
   obtain ⟨⟨y1,cy1⟩,fy⟩:=hM2.cell hlt
   have HM2:=zh hM2
   have lM2:=hM2.lt
   have isM:=hM2.isT
   have hx2:=HX.out.later hc2
   clear hM2 hfr
   go_wp2_with fail
   go_roundw
   case rel =>
    refine ⟨c+1,by go_num,by omega,zh (HM2.out.step hlt ((Near.refl w2 _).set c _) (fun arr hA=>hA.set c _) (HFR.out.kept (Keep.setCell isM) zd)),zh (hx2.setOther _ zi),(Bt hb hc2).setCell zi _⟩
   case measure=>exact zM
  ·have hnc:n=c:=by omega
   subst hnc
   have hmv:MatV wr (.slice (some ⟨w.heap.size+1,0,none⟩) n n) (transM m n):=by
    have e1:(transM m n).length=n:=by simp [transM]
    have:MatV wr (.slice (some ⟨w.heap.size+1,0,none⟩) (transM m n).length (transM m n).length) (transM m n):=by
     refine MFill.matV ?_ (by have:=HN4.out;omega)
     rw [e1]
     obtain ⟨arr,k1,k2,k3⟩:=HM.out
     refine ⟨arr,k1,k2,fun i hi=>?_⟩
     have e2:(transM m n).getD i []=colM m i:=by simp [transM,hi]
     show ∃ v,arr[i]? =some v∧Frs wr 59 v ((transM m n).getD i [])
     rw [e2]
     exact k3 i hi
    rw [e1] at this
    exact this
   have HMV:=zh hmv
   clear hmv
   go_wp2_with fail
   go_ret
   exact ⟨_,rfl,hb,HMV.out⟩
end Go.Proofs.matrix
namespace Go.Proofs.matrix
open Go Go.RowKit Go.SW Go.Num Go.Mem Go.Proofs Go.Dec Go.Fra
theorem psum_eq (f:Nat→Int):∀ n,psum f n=psumI f n
 | 0=>rfl
 | n+1=>by simp only [psum,psumI];rw [psum_eq f n]
theorem infoF:(Tryz.prog.info? 59).map (fun i=>(i.zero,i.size,i.bytes))=some (some (.agg #[.string ⟨#[]⟩,.string ⟨#[]⟩]),2,32):=by kernel_rfl
def ListPost (w:World) (xs:List Rat) (e:Ending) (w':World):Prop :=
 (xs.all okq=true∧∃ vo,e= .returned (.tuple #[vo,.int .i64 0])∧Below w.heap.size w w'∧Frs w' 59 vo (xs.map Fr.of)) ∨
 (xs.all okq=false∧e= .returned (.tuple #[.slice none 0 0,.int .i64 6])∧Below w.heap.size w w')
def RM.ok (m:RM) (n:Nat):Prop:=1≤m.length∧m.length≤4∧1≤n∧n≤4∧∀ r∈m,r.length=n∧∀ q∈r,okq q=true
theorem chkL_of {qs:List Rat} (h:∀ q∈qs,okq q=true):chkL (qs.map Fr.of)=0:=by
 unfold chkL
 rw [if_pos]
 rw [List.all_eq_true]
 intro a ha
 obtain ⟨q,hq,rfl⟩:=List.mem_map.1 ha
 rw [rd_of (h q hq)]
 rfl
theorem RM.ok.chk {m:RM} {n:Nat} (h:m.ok n):chkM m.fr=0:=by
 obtain ⟨h1,h2,h3,h4,h5⟩:=h
 unfold chkM
 rw [if_pos]
 unfold okM RM.fr
 cases m with
 | nil=>simp at h1
 | cons r t =>
  have hr:=h5 r zi
  simp only [List.map_cons,List.headD_cons,List.length_map,Bool.and_eq_true,decide_eq_true_eq]
  refine ⟨⟨⟨⟨by simp,by simpa using h2⟩,by omega⟩,by omega⟩,?_⟩
  rw [List.all_eq_true]
  intro x hx
  have key:∀ s∈r::t,((s.map Fr.of).length == r.length&&chkL (s.map Fr.of) == 0)=true:=fun s hs=>by
   have hs2:=h5 s hs
   rw [chkL_of hs2.2,List.length_map,hs2.1,hr.1]
   simp
  rcases List.mem_cons.1 hx with rfl|hx
  ·exact key r zi
  ·obtain ⟨s,hs,rfl⟩:=List.mem_map.1 hx
   exact key s (by simp [hs])
theorem MatV.head {w:World} {v:Value} {m:RM} (h:MatV w v m.fr) (h0:0<m.length) :
  ∃ b off cap a0 cap0,v= .slice (some ⟨b,off,none⟩) m.length cap∧b<w.heap.size∧w.cell? ⟨b,off,none⟩=some (.slice a0 (m.headD []).length cap0):=by
 obtain ⟨rs,hR,hlen,hF⟩:=h
 have hl:m.fr.length=m.length:=List.length_map _
 rcases hR.cases with ⟨rfl,rfl⟩|⟨b,off,cap,arr,rfl,k1,k2,k3,k4⟩
 ·simp at hlen;omega
 ·have h0r:0<rs.length:=by omega
  obtain ⟨a0,cap0,e0, -⟩:=(hF 0 h0r zo).read
  refine ⟨b,off,cap,a0,cap0,by rw [hlen,hl],k3.lt,?_⟩
  have:=(k3.cell (off+0)).trans (k4 0 h0r)
  rw [e0] at this
  cases m with
  | nil=>simp at h0
  | cons r t=>simpa [RM.fr] using this
theorem Fill_other {w:World} {g:Nat} {T:TypeId} {n k:Nat} {f:Nat→Fr} (h:Fill w g T n k (FrC f)) {a:Addr} (u:Value) (hne:g≠a.block):Fill (w.setCell a u) g T n k (FrC f):=by
 obtain ⟨arr,h1,h2,h3⟩:=h
 exact ⟨arr,h1.setOther u hne,h2,h3⟩
theorem RowsI_read {w:World} {va:Option Addr} {na ca:Nat} {xss:List (List Int)} (h:RowsI w (.slice va na ca) xss) :
  na=xss.length∧∀ k (_:k<xss.length),∃ b off pa n cc,va=some ⟨b,off,none⟩∧b<w.heap.size∧w.cell? ⟨b,off+k,none⟩=some (.slice pa n cc)∧IntsV w (.slice pa n cc) xss[k]:=by
 obtain ⟨rs,hR,hl,hF⟩:=h
 rcases hR.cases with ⟨h1,h2⟩|⟨b,off,cap,arr,h1, -, -, h4,h5⟩
 ·simp only [Value.slice.injEq] at h1
  subst h2
  have hl0:0=xss.length:=hl
  exact ⟨by omega,fun k hk=>absurd hk zo⟩
 ·simp only [Value.slice.injEq] at h1
  refine ⟨by rw [h1.2.1,hl],fun k hk=>?_⟩
  have hk2:k<rs.length:=by omega
  have hi:=hF k hk hk2
  obtain ⟨pa,cc,e, -⟩:=hi.read
  refine ⟨b,off,pa,_,cc,h1.1,h4.lt,?_,e ▸ hi⟩
  rw [h4.cell,h5 k hk2,e]
theorem MagsV_read {w:World} {va:Option Addr} {na ca:Nat} {ds:List Nat} (h:MagsV w (.slice va na ca) ds) :
  na=ds.length∧∀ k (_:k<ds.length),∃ b off pa n cc,va=some ⟨b,off,none⟩∧b<w.heap.size∧w.cell? ⟨b,off+k,none⟩=some (.slice pa n cc)∧Mag w (.slice pa n cc) ds[k]:=by
 obtain ⟨rs,hR,hl,hF⟩:=h
 rcases hR.cases with ⟨h1,h2⟩|⟨b,off,cap,arr,h1, -, -, h4,h5⟩
 ·simp only [Value.slice.injEq] at h1
  subst h2
  have hl0:0=ds.length:=hl
  exact ⟨by omega,fun k hk=>absurd hk zo⟩
 ·simp only [Value.slice.injEq] at h1
  refine ⟨by rw [h1.2.1,hl],fun k hk=>?_⟩
  have hk2:k<rs.length:=by omega
  have hi:=hF k hk hk2
  obtain ⟨pa,n,cc,e⟩:=hi.slice
  refine ⟨b,off,pa,n,cc,h1.1,h4.lt,?_,e ▸ hi⟩
  rw [h4.cell,h5 k hk2,e]
theorem apply_main (v vl:Value) (m:RM) (qs:List Rat) (T:TypeId) (w:World) (h:MatV w v m.fr) (hl:Frs w T vl (qs.map Fr.of)) (hm:m.ok qs.length) (hq:∀ q∈qs,okq q=true) (ht:Bld.Pow w) :
  Calls Tryz.prog 29 #[v,vl] w (ListPost w (m.map fun r=>dotQ r qs)):=by
 have hm2:=hm
 obtain ⟨m1,m4,n1,n4,hrows⟩:=hm2
 obtain ⟨i0,hi,hz0,hz1,hz2⟩:=info_parts infoF
 obtain ⟨b,off,cap,a0,cap0,rfl,lb,hc0⟩:=MatV.head h zo
 have hw0:(m.headD []).length=qs.length:=by
  cases m with
  | nil=>simp at m1
  | cons r t=>exact (hrows r zi).1
 rw [hw0] at hc0
 obtain ⟨al,capl,rfl,hcl1,hcl2, -⟩:=hl.read
 have HC1:=zh (fun w' hb=>Check_ok _ m.fr w' (h.later hb))
 rw [hm.chk] at HC1
 have HC2:=zh (fun w' hb=>checkList_ok _ (qs.map Fr.of) T w' (hl.later hb))
 rw [chkL_of hq] at HC2
 have HRD:=zh (fun w' hb=>read_ok _ m w' (h.later hb) m4 (fun r hr=>⟨by have:=(hrows r hr).1;omega,(hrows r hr).2⟩))
 have HCM:=zh (fun w' hb=>common_ok _ qs T w' (hl.later hb) hq zo)
 have hln:(qs.map Fr.of).length=qs.length:=List.length_map _
 rw [hln] at HC2 HCM hcl1 ⊢
 have HROWS:=zh hrows
 have HQ:=zh hq
 have HT:=zh ht
 clear h hl hm hq ht hrows hw0 hln
 have h0m:0<m.length:=by omega
 go_enter Tryz.func29,Tryz.ntmps29
 go_wp2_with fail
 refine (HC1.out _ (Below.refl _ _)).mono ?_
 rintro e v1 ⟨rfl,hc1⟩
 go_wp2_with fail
 refine (HC2.out _ hc1).mono ?_
 rintro e v2 ⟨rfl,hc2⟩
 have c0:=((Bt hc1 hc2).cell (p:=⟨b,off,none⟩) lb).trans hc0
 go_wp2_with fail
 refine (HRD.out _ (Bt hc1 hc2)).mono ?_
 rintro e v3 ⟨vt,rfl,hc3,htab⟩
 obtain ⟨va,na,ca,vb,nb,cb,rfl,hrw,hmg⟩:=htab
 have HRW:=zh hrw
 have HMG:=zh hmg
 clear hrw hmg
 go_wp2_with fail
 refine (HCM.out _ (Below_alloc (Bt (Bt hc1 hc2) hc3) _)).mono ?_
 rintro e v4 ⟨vtt,vd,rfl,hc4,hv1,hv2⟩
 obtain ⟨at',ct',rfl, -⟩:=hv1.read
 obtain ⟨ad,nd,cd,rfl⟩:=hv2.slice
 have hx8:=(Box.new v3 #[.slice va na ca,.slice vb nb cb] 105).later hc4
 have hbv:Below v3.heap.size v3 v4:=Bt (Below_alloc (Below.refl _ _) _) hc4
 replace HRW:=zh (HRW.out.later hbv)
 replace HMG:=zh (HMG.out.later hbv)
 have HVT:=zh hv1
 have HVD:=zh hv2
 have hbw:Below w.heap.size w v4:=Bt (Bt (Bt hc1 hc2) hc3) hbv
 have htl:(qs.map (ctop (cden qs))).length=qs.length:=List.length_map _
 rw [htl] at HVT ⊢
 obtain ⟨B8,hB8⟩:∃ x,v3.heap.size=x:=⟨_,rfl⟩
 rw [hB8] at hx8 ⊢
 have HX8:=zh hx8
 clear hv1 hv2 hbv hx8 hB8 htl
 go_wp2_with (at_make;refine wpList_make_full _ rfl _ _ 29 rfl w.heap.size 59 i0 (.agg #[.string ⟨#[]⟩,.string ⟨#[]⟩]) 2 Tryz.underlying29 hi hz0 hz1 _ _ _ _ m.length rfl rfl zo zo (by rw [hz2];omega) (by unfold maxLen;omega) hbw.size ?_)
 intro w5 hown hgrow
 have hb5:Below v4.heap.size v4 w5:=(Below.refl _ _).grown hgrow (Nat.le_refl _) (fun k hk=>by cases hk)
 have HF:=zh (Fill.start (ok:=FrC (fun i=>Fr.of (dotQ (m.getD i []) qs))) hown)
 have hG:w.heap.size≤v4.heap.size:=hbw.size
 obtain ⟨hna,hrd1⟩:=RowsI_read HRW.out
 obtain ⟨hnb,hrd2⟩:=MagsV_read HMG.out
 have hl1:(m.map rtop).length=m.length:=List.length_map _
 have hl2:(m.map cden).length=m.length:=List.length_map _
 rw [hl1] at hna
 rw [hl2] at hnb
 subst hna hnb
 have HR1:=zh hrd1
 have HR2:=zh hrd2
 clear hown hgrow hrd1 hrd2 hl1 hl2 HRW HMG
 go_wp2_with fail
 go_loopw [44] (fun iv wr=>∃ k:Nat,iv= .int .i64 (k:Int)∧k≤m.length∧Hid (Fill wr v4.heap.size 59 m.length k (FrC (fun i=>Fr.of (dotQ (m.getD i []) qs))))∧Hid (∀ i,i<k→okq (dotQ (m.getD i []) qs)=true)∧Below v4.heap.size v4 wr) (fun iv _=>m.length - (intOf iv).toNat)
 case atStart=>exact ⟨0,rfl,by omega,HF,zh (fun i h=>by omega),hb5⟩
 case round =>
  obtain ⟨k,rfl,hk,HF,HK,hb⟩:=hrel
  have hx8:=HX8.out.later hb
  have c8:=hx8.cell
  have l8:=hx8.lt
  rcases Nat.lt_or_ge k m.length with hlt|hge
  ·obtain ⟨b1,off1,p1,n1,d1,rfl,e2,e3,e4⟩:=HR1.out k (by rw [List.length_map];exact hlt)
   obtain ⟨b2,off2,p2,n2,d2,rfl,f2,f3,f4⟩:=HR2.out k (by rw [List.length_map];exact hlt)
   have cr:=(hb.cell (p:=⟨b1,off1+k,none⟩) e2).trans e3
   have cm:=(hb.cell (p:=⟨b2,off2+k,none⟩) f2).trans f3
   have hlt2:(k:Int)<(m.length:Int):=by omega
   have hrow:=HROWS.out m[k] (List.getElem_mem _)
   have hgd:m.getD k []=m[k]:=by simp [hlt]
   simp only [List.getElem_map] at e4 f4
   have H4:=zh (e4.later hb)
   have G4:=zh (f4.later hb)
   have hvt:=HVT.out.later hb
   have HVT2:=zh hvt
   have HVD2:=zh (HVD.out.later hb)
   have HROW:=zh hrow
   have HGD:=zh hgd
   have lG:=HF.out.lt
   clear e2 e3 e4 f2 f3 f4 hrow hgd hvt
   generalize m[k]=r at *
   have hrl:=HROW.out.1
   have htl:(rtop r).length=r.length:=List.length_map _
   have HDOT:=zh (fun w' hb=>dot_ok _ _ (rtop r) (qs.map (ctop (cden qs))) w' (H4.out.later hb) (HVT2.out.later hb) (by rw [htl,List.length_map,hrl]) zo zo
    (fun i=>Nat.le_trans (ctop_sz HROW.out.2 zo i) zo) (fun i=>Nat.le_trans (ctop_sz HQ.out n4 i) zo))
   have hcr:=cden_sz r HROW.out.2
   have hcq:=cden_sz qs HQ.out
   have hpr:=(cden_facts r).1
   have hpq:=(cden_facts qs).1
   have hprod:=Nat.mul_pos hpr hpq
   have hsp:=sz_mul (B:=1000000000) zo (cden r) (cden qs)
   have hdot:=dot_eq (r:=r) (s:=qs) hrl.symm
   have KR:=zh (show sz 1000000000 (cden r)≤1099511627776 by omega)
   have KQ:=zh (show sz 1000000000 (cden qs)≤1099511627776 by omega)
   have hz1:sz 1000000000 (dotp (rtop r) (qs.map (ctop (cden qs)))).natAbs≤549755813888:=by
    unfold dotp
    have:=psum_sz (fun i=>(rtop r).getD i 0*(qs.map (ctop (cden qs))).getD i 0) 2000 (fun i=>by
     have h1:=sz_absmul2 ((rtop r).getD i 0) ((qs.map (ctop (cden qs))).getD i 0)
     have h2:=ctop_sz HROW.out.2 zo i
     have h3:=ctop_sz HQ.out n4 i
     unfold rtop at *
     omega) (rtop r).length
    omega
   have hzd:dotp (rtop r) (qs.map (ctop (cden qs)))=psumI (fun i=>(r.map (ctop (cden r))).getD i 0*(qs.map (ctop (cden qs))).getD i 0) r.length:=by
    unfold dotp
    rw [htl,psum_eq]
    rfl
   rw [← hzd] at hdot
   obtain ⟨z,EZ⟩:∃ x:Int,Hid (dotp (rtop r) (qs.map (ctop (cden qs)))=x):=⟨_,zh rfl⟩
   obtain ⟨D,ED⟩:∃ x:Nat,Hid (cden r*cden qs=x):=⟨_,zh rfl⟩
   rw [EZ.out] at HDOT hz1 hdot
   rw [ED.out] at hprod hsp hdot
   have KZ:=zh hz1
   have KD:Hid (sz 1000000000 ((D:Nat):Int).natAbs≤549755813888):=zh (by rw [Int.natAbs_natCast];omega)
   have ND:Hid (((D:Nat):Int)≠0):=zh zo
   have SD:Hid (sgd D false=((D:Nat):Int)):=zh rfl
   have HW:Hid ((z:Rat) / ((((D:Nat):Int)):Rat)=dotQ r qs):=zh (by rw [Rat.intCast_natCast];exact hdot)
   clear hrl htl hcr hcq hpr hpq hprod hsp hdot hz1 hzd
   obtain ⟨q,EQ⟩:∃ x:Rat,Hid (dotQ r qs=x):=⟨_,zh rfl⟩
   rw [EQ.out] at HW
   go_wp2_with fail
   refine wp_region_walk [(.pure,0),(.read,1),(.pure,2),(.pure,3),(.read,4),(.pure,5),(.pure,7),(.read,8),(.pure,9),(.pure,10),(.read,11),(.pure,12),(.ext,6),(.ext,13),(.ext,14),(.ext,15),(.pure,16),(.pure,17),(.pure,18),(.alloc #[.string ⟨#[]⟩,.string ⟨#[]⟩] 59,19),(.fin,20),(.fin,21)] zk zk zR zP ?_
   repeat (first|(refine walk_pure0 rfl rfl fun J h=>?_;go_simp;refine h _ ?_;clear h J)|(refine walk_load rfl rfl rfl rfl fun J h=>?_;go_simp;refine h _ ?_;clear h J;try go_simp))
   refine walk_ext rfl rfl (fun w11 hb11 J hJ=>?_);go_simp
   replace G4:=zh (Mag.carry G4.out magA hb11)
   replace HVD2:=zh (Mag.carry HVD2.out magA hb11)
   refine (HDOT.out _ belA).mono ?_
   rintro e v11 ⟨v,rfl,hc11,hv⟩
   obtain ⟨paHz,lHz,caHz,rfl,Hz⟩:=hv;replace Hz:=zh Hz
   replace G4:=zh (Mag.later G4.out hc11)
   replace HVD2:=zh (Mag.later HVD2.out hc11)
   refine hJ _ _ hc11 ?_
   clear hJ J
   refine walk_ext rfl rfl (fun w12 hb12 J hJ=>?_);go_simp
   replace Hz:=zh (Mag.later Hz.out hb12)
   refine ((times_ok _ _ (cden r) (cden qs) _ magA magA KR.out KQ.out).mono (by rw [ED.out];exact fun _ _ h=>h)).mono ?_
   rintro e v12 ⟨v,rfl,hc12,hv⟩
   obtain ⟨paHm,lHm,caHm,rfl⟩:=hv.slice;have Hm:=zh hv;clear hv
   replace Hz:=zh (Mag.later Hz.out hc12)
   refine hJ _ _ hc12 ?_
   clear hJ J
   refine walk_ext rfl rfl (fun w13 hb13 J hJ=>?_);go_simp
   replace Hz:=zh (Mag.later Hz.out hb13)
   refine ((signed_ok _ D false _ magA).mono (by rw [SD.out];exact fun _ _ h=>h)).mono ?_
   rintro e v13 ⟨v,rfl,hc13,hv⟩
   obtain ⟨paHs,lHs,caHs,rfl,Hs⟩:=hv;replace Hs:=zh Hs
   replace Hz:=zh (Mag.later Hz.out hc13)
   refine hJ _ _ hc13 ?_
   clear hJ J
   have hq2:okq q=true∨okq q=false:=by cases okq q<;>simp
   rcases hq2 with hq2|hq2
   ·have HWR:Hid (Fr.res (Fra.wr q)= .tuple #[.agg #[.string (Fr.of q).n,.string (Fr.of q).d],.int .i64 0]):=zh (by unfold Fra.wr;rw [if_pos hq2];rfl)
    have HOK:=zh hq2
    clear hq2
    obtain ⟨s1,Es1⟩:∃ x:ByteArray,Hid ((Fr.of q).n=x):=⟨_,zh rfl⟩
    obtain ⟨s2,Es2⟩:∃ x:ByteArray,Hid ((Fr.of q).d=x):=⟨_,zh rfl⟩
    rw [Es1.out,Es2.out] at HWR
    refine walk_ext rfl rfl (fun w14 hb14 J hJ=>?_);go_simp
    refine ((write_ok _ _ z ((D:Nat):Int) _ (IntV.of_neg magA) (IntV.of_neg magA) ND.out KZ.out KD.out (HT.out.later belA)).mono (by rw [HW.out,HWR.out];exact fun _ _ h=>h)).mono ?_
    rintro e v14 ⟨rfl,hc14⟩
    refine hJ _ _ hc14 ?_
    clear hJ J
    repeat (first|(refine walk_pure0 rfl rfl fun J h=>?_;go_simp;refine h _ ?_;clear h J)|(refine walk_load rfl rfl rfl rfl fun J h=>?_;go_simp;refine h _ ?_;clear h J;try go_simp))
    refine walk_alloc rfl (fun b13 w6 hw6 hNb13 hltb13 hAb13 hxb13=>?_);go_simp;replace hxb13:Box _ _ _ _:=hxb13;have hWb13:w.heap.size≤b13:=(by first|omega|exact Nat.le_trans (Below.size (B:=w.heap.size) belA) hNb13)
    refine walk_fin [_,_] rfl (fun w7 hb7=>?_)
    replace hxb13:=Box.later (hxb13) hb7;replace chxb13:=hxb13.cell;replace fhxb13:=hxb13.free;replace lhxb13:=hxb13.lt
    replace HF:Hid (Fill w7 v4.heap.size 59 m.length k (FrC (fun i=>Fr.of (dotQ (m.getD i []) qs)))):=zh (HF.out.later belA (fun _ _ _ h=>h))
    have hN:wr.heap.size≤b13:=hNb13
    have ne1:v4.heap.size≠b13:=by omega
    have ne2:b13≠v4.heap.size:=by omega
    obtain ⟨⟨y1,cy1⟩,⟨y2,cy2⟩,fy⟩:=HF.out.cells hlt
    have hF2:=zh (Fill_other (Fill_other HF.out (a:=⟨b13,0,none⟩) (.string s1) ne1) (a:=⟨b13,1,none⟩) (.string s2) ne1)
    have hb7:Below v4.heap.size v4 w7:=belA
    have hle:v4.heap.size≤b13:=by omega
    go_wp2_with fail
    go_roundw
    case rel =>
     refine ⟨k+1,by go_num,by omega,zh (hF2.out.step hlt (fun _ _ _ h=>h) ⟨?_,?_⟩),zh fun i hi=>?_,(((hb7.setCell hle _).setCell hle _).setCell (Nat.le_refl _) _).setCell (Nat.le_refl _) _⟩
     ·show Value.string s1= .string (Fr.of (dotQ (m.getD k []) qs)).n
      rw [HGD.out,EQ.out,Es1.out]
     ·show Value.string s2= .string (Fr.of (dotQ (m.getD k []) qs)).d
      rw [HGD.out,EQ.out,Es2.out]
     ·rcases Nat.lt_or_ge i k with h|h
      ·exact HK.out i h
      ·obtain rfl:i=k:=by omega
       rw [HGD.out,EQ.out]
       exact HOK.out
    case measure=>exact zM
   ·have HWR:Hid (Fr.res (Fra.wr q)= .tuple #[.agg #[.string ⟨#[]⟩,.string ⟨#[]⟩],.int .i64 6]):=zh (wr_big hq2)
    have hbad:(m.map fun r=>dotQ r qs).all okq=false:=by
     rw [List.all_eq_false]
     have hkm:k<(m.map fun r=>dotQ r qs).length:=by rw [List.length_map];exact hlt
     refine ⟨(m.map fun r=>dotQ r qs)[k],List.getElem_mem _,?_⟩
     have e1:(m.map fun r=>dotQ r qs)[k]=dotQ (m.getD k []) qs:=by simp [hlt]
     rw [e1,HGD.out,EQ.out,hq2]
     simp
    have HBAD:=zh hbad
    clear hq2 hbad
    refine walk_ext rfl rfl (fun w14 hb14 J hJ=>?_);go_simp
    refine ((write_ok _ _ z ((D:Nat):Int) _ (IntV.of_neg magA) (IntV.of_neg magA) ND.out KZ.out KD.out (HT.out.later belA)).mono (by rw [HW.out,HWR.out];exact fun _ _ h=>h)).mono ?_
    rintro e v14 ⟨rfl,hc14⟩
    refine hJ _ _ hc14 ?_
    clear hJ J
    repeat (first|(refine walk_pure0 rfl rfl fun J h=>?_;go_simp;refine h _ ?_;clear h J)|(refine walk_load rfl rfl rfl rfl fun J h=>?_;go_simp;refine h _ ?_;clear h J;try go_simp))
    refine walk_alloc rfl (fun b13 w6 hw6 hNb13 hltb13 hAb13 hxb13=>?_);go_simp;replace hxb13:Box _ _ _ _:=hxb13;have hWb13:w.heap.size≤b13:=(by first|omega|exact Nat.le_trans (Below.size (B:=w.heap.size) belA) hNb13)
    refine walk_fin [_,_] rfl (fun w7 hb7=>?_)
    replace hxb13:=Box.later (hxb13) hb7;replace chxb13:=hxb13.cell;replace fhxb13:=hxb13.free;replace lhxb13:=hxb13.lt
    have hb7':Below w.heap.size w w7:=belA
    go_wp2_with fail
    go_ret2
    exact .inr ⟨HBAD.out,rfl,(hb7'.setCell hWb13 _).setCell hWb13 _⟩
  ·obtain rfl:k=m.length:=by omega
   have hall:(m.map fun r=>dotQ r qs).all okq=true:=by
    rw [List.all_eq_true]
    intro q hq
    obtain ⟨i,hi,rfl⟩:=List.getElem_of_mem hq
    have hi2:i<m.length:=by rw [List.length_map] at hi;exact hi
    have:=HK.out i hi2
    simpa [hi2] using this
   have hfr:Frs wr 59 (.slice (some ⟨v4.heap.size,0,none⟩) m.length m.length) ((m.map fun r=>dotQ r qs).map Fr.of):=by
    have hll:((m.map fun r=>dotQ r qs).map Fr.of).length=m.length:=by simp
    have hfill:Fill wr v4.heap.size 59 ((m.map fun r=>dotQ r qs).map Fr.of).length ((m.map fun r=>dotQ r qs).map Fr.of).length (FrC fun i=>((m.map fun r=>dotQ r qs).map Fr.of).getD i Fr.no):=by
     rw [hll]
     obtain ⟨arr,g1,g2,g3⟩:=HF.out
     refine ⟨arr,g1,g2,fun i hi=>?_⟩
     obtain ⟨x,y,y1,y2,y3,y4⟩:=g3 i hi
     refine ⟨x,y,y1,y2,?_⟩
     have e:((m.map fun r=>dotQ r qs).map Fr.of).getD i Fr.no=Fr.of (dotQ (m.getD i []) qs):=by simp [hi]
     exact ⟨by show x= .string (((m.map fun r=>dotQ r qs).map Fr.of).getD i Fr.no).n;rw [e];exact y3,by show y= .string (((m.map fun r=>dotQ r qs).map Fr.of).getD i Fr.no).d;rw [e];exact y4⟩
    have:=Frs.of_fill hfill (by rw [hll];omega)
    rw [hll] at this
    exact this
   have HFR:=zh hfr
   have HALL:=zh hall
   clear hfr hall
   go_wp2_with fail
   go_ret2
   exact .inl ⟨HALL.out,_,rfl,Bt hbw hb,HFR.out⟩
def colQ (m:RM) (c:Nat):List Rat:=m.map fun r=>r.getD c 0
def colsQ (m:RM) (n:Nat):RM:=(List.range n).map (colQ m)
def mulQ (a b:RM) (n:Nat):RM:=a.map fun r=>(List.range n).map fun c=>dotQ r (colQ b c)
def allQ (m:RM):Bool:=m.all fun r=>r.all okq
theorem transM_fr {m:RM} {n:Nat} (h:m.ok n):transM m.fr n=(colsQ m n).fr:=by
 obtain ⟨-, -, -, -, h5⟩:=h
 unfold transM colsQ RM.fr
 rw [List.map_map]
 refine List.map_congr_left fun c hc=>?_
 have hcn:c<n:=List.mem_range.1 hc
 unfold colM colQ
 simp only [Function.comp,List.map_map]
 refine List.map_congr_left fun r hr=>?_
 have:=(h5 r hr).1
 simp [this,hcn]
theorem colsQ_ok {m:RM} {n:Nat} (h:m.ok n):(colsQ m n).ok m.length:=by
 obtain ⟨h1,h2,h3,h4,h5⟩:=h
 refine ⟨by simp [colsQ];omega,by simp [colsQ];omega,h1,h2,fun r hr=>?_⟩
 obtain ⟨c,hc,rfl⟩:=List.mem_map.1 hr
 have hcn:c<n:=List.mem_range.1 hc
 refine ⟨by simp [colQ],fun q hq=>?_⟩
 obtain ⟨s,hs,rfl⟩:=List.mem_map.1 hq
 obtain ⟨k1,k2⟩:=h5 s hs
 have e:s.getD c 0=s[c]'zo:=by simp [k1,hcn]
 rw [e]
 exact k2 _ (List.getElem_mem _)
theorem mul_main (va vb:Value) (ma mb:RM) (n:Nat) (w:World) (ha:MatV w va ma.fr) (hb:MatV w vb mb.fr) (oka:ma.ok mb.length) (okb:mb.ok n) (ht:Bld.Pow w) :
  Calls Tryz.prog 27 #[va,vb] w (MatPost w (if allQ (mulQ ma mb n) then 0 else 6) (mulQ ma mb n).fr):=by
 have oka':=oka
 obtain ⟨a1,a4,b1,b4,harows⟩:=oka
 have okb':=okb
 obtain ⟨_,_,n1,n4,hbrows⟩:=okb
 obtain ⟨ba,offa,capa,a0,cap0,rfl,lba,ca0⟩:=MatV.head ha zo
 obtain ⟨bb,offb,capb,b0,capb0,rfl,lbb,cb0⟩:=MatV.head hb zo
 have hwa:(ma.headD []).length=mb.length:=by
  cases ma with
  | nil=>simp at a1
  | cons r t=>exact (harows r zi).1
 have hwb:(mb.headD []).length=n:=by
  cases mb with
  | nil=>simp at b1
  | cons r t=>exact (hbrows r zi).1
 rw [hwa] at ca0
 rw [hwb] at cb0
 have HC1:=zh (fun w' hx=>Check_ok _ ma.fr w' (ha.later hx))
 rw [oka'.chk] at HC1
 have HC2:=zh (fun w' hx=>Check_ok _ mb.fr w' (hb.later hx))
 rw [okb'.chk] at HC2
 have HRA:=zh (fun w' hx=>read_ok _ ma w' (ha.later hx) a4 (fun r hr=>⟨by have:=(harows r hr).1;omega,(harows r hr).2⟩))
 have HTR:=zh (fun w' hx=>transposed_ok _ mb.fr n w' (hb.later hx) (by simpa [RM.fr] using b1) (by simpa [RM.fr] using b4) n4 (fun r hr=>by
  obtain ⟨s,hs,rfl⟩:=List.mem_map.1 hr
  simpa using (hbrows s hs).1))
 rw [transM_fr okb'] at HTR
 have okc:=colsQ_ok okb'
 obtain ⟨mc,Emc⟩:∃ y:RM,Hid (colsQ mb n=y):=⟨_,zh rfl⟩
 have hcl:mc.length=n:=by rw [← Emc.out];simp [colsQ]
 have hcg:∀ c,c<n→mc.getD c []=colQ mb c:=fun c hc=>by rw [← Emc.out];simp [colsQ,hc]
 rw [Emc.out] at HTR okc
 have HRC:=zh (fun v w' (hx:MatV w' v mc.fr)=>read_ok v mc w' hx zo (fun r hr=>⟨by have:=(okc.2.2.2.2 r hr).1;omega,(okc.2.2.2.2 r hr).2⟩))
 obtain ⟨E,EE⟩:∃ E:Nat→Nat→Rat,E=fun i c=>dotQ (ma.getD i []) (mc.getD c []):=⟨_,rfl⟩
 have HMQ:Hid (∀ i,i<ma.length→(mulQ ma mb n).getD i []=(List.range n).map (E i)):=zh fun i hi=>by
  rw [EE]
  simp only [mulQ,List.getD_eq_getElem?_getD,List.getElem?_map,List.getElem?_eq_getElem hi,Option.map_some,Option.getD_some]
  refine List.map_congr_left fun c hc=>?_
  have:=hcg c (List.mem_range.1 hc)
  rw [List.getD_eq_getElem?_getD] at this
  rw [this]
 have HML:Hid ((mulQ ma mb n).length=ma.length):=zh (by simp [mulQ])
 have HAR:=zh harows
 have HOC:=zh okc
 have HT:=zh ht
 have HEE:Hid (∀ i c,dotQ (ma.getD i []) (mc.getD c [])=E i c):=zh fun i c=>by rw [EE]
 have HCLN:=zh hcl
 clear ha hb oka' okb' harows hbrows hwa hwb okc ht hcl hcg EE
 obtain ⟨na,hna⟩:∃ y,ma.length=y:=⟨_,rfl⟩
 obtain ⟨nb,hnb⟩:∃ y,mb.length=y:=⟨_,rfl⟩
 have HNA:=zh hna
 have HNB:=zh hnb
 rw [hna] at HC1 HRA a1 a4 HMQ HML ⊢
 rw [hnb] at b1 b4 ca0 HC2 HTR HAR HOC ⊢
 clear hna hnb
 have b0n:0<nb:=by omega
 have a0n:0<na:=by omega
 obtain ⟨er,HER⟩:∃ y:Int,Hid ((if allQ (mulQ ma mb n) then 0 else 6)=y):=⟨_,zh rfl⟩
 obtain ⟨MM,EMM⟩:∃ y:RM,Hid (mulQ ma mb n=y):=⟨_,zh rfl⟩
 rw [HER.out]
 rw [EMM.out] at HER HMQ HML ⊢
 clear EMM
 go_enter Tryz.func27,Tryz.ntmps27
 go_wp2_with fail
 refine (HC1.out _ (Below.refl _ _)).mono ?_
 rintro e v1 ⟨rfl,hc1⟩
 go_wp2_with fail
 refine (HC2.out _ hc1).mono ?_
 rintro e v2 ⟨rfl,hc2⟩
 have hw2:Below w.heap.size w v2:=Bt hc1 hc2
 have c1:=(hw2.cell (p:=⟨ba,offa,none⟩) lba).trans ca0
 have c2:=(hw2.cell (p:=⟨bb,offb,none⟩) lbb).trans cb0
 go_wp2_with fail
 refine (HRA.out _ hw2).mono ?_
 rintro e v3 ⟨vt,rfl,hc3,htab⟩
 obtain ⟨pa1,na1,ca1,pa2,na2,ca2,rfl,hra,hma⟩:=htab
 have HRA1:=zh hra
 have HMA1:=zh hma
 have hw3:Below w.heap.size w v3:=Bt hw2 hc3
 clear hra hma c1 c2
 go_wp2_with fail
 refine (HTR.out _ hw3).mono ?_
 rintro e v4 ⟨vtr,rfl,hc4,hmt⟩
 have HMT:=zh hmt
 clear hmt
 go_wp2_with fail
 refine (HRC.out _ _ HMT.out).mono ?_
 rintro e v5 ⟨vt,rfl,hc5,htab⟩
 obtain ⟨pb1,nb1,cb1,pb2,nb2,cb2,rfl,hrb,hmb⟩:=htab
 have HRB1:=zh hrb
 have HMB1:=zh hmb
 have h45:=Bt hc4 hc5
 replace HRA1:=zh (HRA1.out.later h45)
 replace HMA1:=zh (HMA1.out.later h45)
 have hw5:Below w.heap.size w v5:=Bt hw3 h45
 obtain ⟨csm,hcsm,hmk⟩:=made_mat na zo
 have HCS:=zh hcsm
 clear hrb hmb h45 hcsm
 go_wp2_with fail
 obtain ⟨vb,Evb⟩:∃ y,(v5.alloc (.cells #[.slice pa1 na1 ca1,.slice pa2 na2 ca2] 105)).alloc (.cells #[.slice pb1 nb1 cb1,.slice pb2 nb2 cb2] 105)=y:=⟨_,rfl⟩
 have hM:v5.heap.size+1+1=vb.heap.size:=by rw [← Evb];simp
 have h5b:Below v5.heap.size v5 vb:=by rw [← Evb];exact belA
 have HX6:Hid (Box vb v5.heap.size #[.slice pa1 na1 ca1,.slice pa2 na2 ca2] 105):=zh (by rw [← Evb];exact boxA)
 have HX7:Hid (Box vb (v5.heap.size+1) #[.slice pb1 nb1 cb1,.slice pb2 nb2 cb2] 105):=zh (by rw [← Evb];exact boxA)
 rw [Evb,hM]
 have hwb:Below w.heap.size w vb:=Bt hw5 h5b
 obtain ⟨hn1,hr1⟩:=RowsI_read (HRA1.out.later h5b)
 obtain ⟨hn2,hr2⟩:=MagsV_read (HMA1.out.later h5b)
 obtain ⟨hn3,hr3⟩:=RowsI_read (HRB1.out.later h5b)
 obtain ⟨hn4,hr4⟩:=MagsV_read (HMB1.out.later h5b)
 rw [List.length_map,HNA.out] at hn1 hn2
 rw [List.length_map,HCLN.out] at hn3 hn4
 replace hn1:=hn1.symm
 replace hn2:=hn2.symm
 replace hn3:=hn3.symm
 replace hn4:=hn4.symm
 subst hn1 hn2 hn3 hn4
 have HR1:=zh hr1
 have HR2:=zh hr2
 have HR3:=zh hr3
 have HR4:=zh hr4
 have HM:=zh (MFill.start2 (f:=fun i=>((List.range n).map (E i)).map Fr.of) (Box.new vb csm 29) HCS.out)
 have h0b:Below vb.heap.size vb (vb.alloc (.cells csm 29)):=belA
 obtain ⟨X6,EX6⟩:∃ y,v5.heap.size=y:=⟨_,rfl⟩
 rw [EX6] at HX6 HX7 ⊢
 have l6:X6<vb.heap.size:=HX6.out.lt
 have l7:X6+1<vb.heap.size:=HX7.out.lt
 have csz:=hwb.size
 clear hr1 hr2 hr3 hr4 HRA1 HMA1 HRB1 HMB1 HMT hw5 hw3 hw2 hc1 hc2 hc3 hc4 hc5 h5b hM EX6 HC1 HC2 HRA HTR HRC hmk HCS Evb
 obtain ⟨csf,hcsf,hmk⟩:=made_frs n zo
 have HCS:=zh hcsf
 clear hcsf
 go_loopw [39] (fun iv wr=>∃ r:Nat,iv= .int .i64 (r:Int)∧r≤na∧Hid (MFill wr vb.heap.size na r (fun i=>((List.range n).map (E i)).map Fr.of))∧Hid (∀ i,i<r→∀ c,c<n→okq (E i c)=true)∧Below vb.heap.size vb wr) (fun iv _=>na - (intOf iv).toNat)
 case atStart=>exact ⟨0,rfl,by omega,HM,zh (fun i h=>by omega),h0b⟩
 case round =>
  clear HM h0b
  obtain ⟨r,rfl,hr,HM,HK,hb⟩:=hrel
  obtain ⟨wo,hwo⟩:∃ y,y=wr:=⟨_,rfl⟩
  subst hwo
  have lM:=HM.out.lt
  rcases Nat.lt_or_ge r na with hlt|hge
  ·have hlt2:(r:Int)<(na:Int):=by omega
   have cbo:=((Bt hwb hb).cell (p:=⟨bb,offb,none⟩) lbb).trans cb0
   have lbo:bb<wo.heap.size:=Nat.lt_of_lt_of_le lbb (Bt hwb hb).size
   obtain ⟨⟨y1,cy1⟩,fy⟩:=HM.out.cell hlt
   obtain ⟨arrM,bM,hsz, -⟩:=HM.out
   have HBM:=zh bM
   have hrs:r<arrM.size:=by omega
   clear bM hsz
   go_wp2_with fail
   clear cy1 fy cbo lbo
   have hGM:wo.heap.size≠vb.heap.size:=by omega
   have hMG:vb.heap.size≠wo.heap.size:=by omega
   have hBn:Box ((wo.setCell ⟨vb.heap.size,r,none⟩ (.slice (some ⟨wo.heap.size,0,none⟩) n n)).alloc (.cells csf 59 (0,0))) wo.heap.size csf 59:=Box.new_at zi
   have HF:=zh (show Fill _ wo.heap.size 59 n 0 (FrC fun i=>Fr.of (E r i)) from ⟨csf,hBn,HCS.out,fun i hi=>by omega⟩)
   have HB:=zh ((HBM.out.set r (.slice (some ⟨wo.heap.size,0,none⟩) n n)).alloc (.cells csf 59 (0,0)))
   have HN:=zh (((Near.refl wo vb.heap.size).set r (.slice (some ⟨wo.heap.size,0,none⟩) n n)).below (w':=(wo.setCell ⟨vb.heap.size,r,none⟩ (.slice (some ⟨wo.heap.size,0,none⟩) n n)).alloc (.cells csf 59 (0,0))) belA)
   clear hBn
   go_loopw [55] (fun iv wr=>∃ c:Nat,iv= .int .i64 (c:Int)∧c≤n∧Hid (Fill wr wo.heap.size 59 n c (FrC fun i=>Fr.of (E r i)))∧Hid (∀ i,i<c→okq (E r i)=true)∧Hid (Box wr vb.heap.size (arrM.setIfInBounds r (.slice (some ⟨wo.heap.size,0,none⟩) n n)) 29)∧Hid (Near wo wr vb.heap.size)) (fun iv _=>n - (intOf iv).toNat)
   case atStart=>exact ⟨0,rfl,by omega,HF,zh (fun i h=>by omega),HB,HN⟩
   case round =>
    clear HF HB HN
    obtain ⟨c,rfl,hcn,HF,HKc,HB,HN⟩:=hrel
    rcases Nat.lt_or_ge c n with hcl|hcl
    ·have hcl2:(c:Int)<(n:Int):=by omega
     have hbv:Below vb.heap.size vb wr:=HN.out.toBelow hb (Nat.le_refl _)
     obtain ⟨b1,o1,p1,m1,d1,rfl,e2,e3,e4⟩:=HR1.out r (by rw [List.length_map,HNA.out];exact hlt)
     obtain ⟨b2,o2,p2,m2,d2,rfl,f2,f3,f4⟩:=HR2.out r (by rw [List.length_map,HNA.out];exact hlt)
     obtain ⟨b3,o3,p3,m3,d3,rfl,g2,g3,g4⟩:=HR3.out c (by rw [List.length_map,HCLN.out];exact hcl)
     obtain ⟨b4',o4,p4,m4,d4,rfl,k2,k3,k4⟩:=HR4.out c (by rw [List.length_map,HCLN.out];exact hcl)
     simp only [List.getElem_map] at e4 f4 g4 k4
     have q1:=(hbv.cell (p:=⟨b1,o1+r,none⟩) e2).trans e3
     have q2:=(hbv.cell (p:=⟨b2,o2+r,none⟩) f2).trans f3
     have q3:=(hbv.cell (p:=⟨b3,o3+c,none⟩) g2).trans g3
     have q4:=(hbv.cell (p:=⟨b4',o4+c,none⟩) k2).trans k3
     have x6:=(HX6.out.later hbv).cell
     have x7:=(HX7.out.later hbv).cell
     have G1:=zh (e4.later hbv)
     have G2:=zh (f4.later hbv)
     have G3:=zh (g4.later hbv)
     have G4:=zh (k4.later hbv)
     have l1:=Nat.lt_of_lt_of_le e2 hbv.size
     have l2:=Nat.lt_of_lt_of_le f2 hbv.size
     have l3:=Nat.lt_of_lt_of_le g2 hbv.size
     have l4:=Nat.lt_of_lt_of_le k2 hbv.size
     have z6:=Nat.lt_of_lt_of_le l6 hbv.size
     have z7:=Nat.lt_of_lt_of_le l7 hbv.size
     clear e2 e3 e4 f2 f3 f4 g2 g3 g4 k2 k3 k4
     have HWB:=zh (show Below vb.heap.size vb wr from hbv)
     have hrm:r<ma.length:=by rw [HNA.out];exact hlt
     have hcm:c<mc.length:=by rw [HCLN.out];exact hcl
     have hra:=HAR.out ma[r] (List.getElem_mem _)
     have hcc:=HOC.out.2.2.2.2 mc[c] (List.getElem_mem _)
     have hee:dotQ ma[r] mc[c]=E r c:=by
      have:=HEE.out r c
      rw [getD_lt hrm,getD_lt hcm] at this
      exact this
     have HRA:=zh hra
     have HCC:=zh hcc
     have HEQ:=zh hee
     clear hra hcc hee HR1 HR2 HR3 HR4 HX6 HX7
     generalize ma[r]=ra at *
     generalize mc[c]=cc at *
     clear hrm hcm
     have htl:(rtop ra).length=ra.length:=List.length_map _
     have htc:(rtop cc).length=cc.length:=List.length_map _
     have hrl:=HRA.out.1
     have hcl3:=HCC.out.1
     have HDOT:=zh (fun w' (hx:Below wr.heap.size wr w')=>dot_ok _ _ (rtop ra) (rtop cc) w' (G1.out.later hx) (G3.out.later hx) (by rw [htl,htc,hrl,hcl3]) zo zo
      (fun i=>Nat.le_trans (ctop_sz HRA.out.2 zo i) zo) (fun i=>Nat.le_trans (ctop_sz HCC.out.2 zo i) zo))
     have hcr:=cden_sz ra HRA.out.2
     have hcq:=cden_sz cc HCC.out.2
     have hpr:=(cden_facts ra).1
     have hpq:=(cden_facts cc).1
     have hprod:=Nat.mul_pos hpr hpq
     have hsp:=sz_mul (B:=1000000000) zo (cden ra) (cden cc)
     have hdot:=dot_eq (r:=ra) (s:=cc) (by rw [hcl3,hrl])
     have KR:=zh (show sz 1000000000 (cden ra)≤1099511627776 by omega)
     have KQ:=zh (show sz 1000000000 (cden cc)≤1099511627776 by omega)
     have hz1:sz 1000000000 (dotp (rtop ra) (rtop cc)).natAbs≤549755813888:=by
      unfold dotp
      have:=psum_sz (fun i=>(rtop ra).getD i 0*(rtop cc).getD i 0) 2000 (fun i=>by
       have h1:=sz_absmul2 ((rtop ra).getD i 0) ((rtop cc).getD i 0)
       have h2:=ctop_sz HRA.out.2 zo i
       have h3:=ctop_sz HCC.out.2 zo i
       unfold rtop at *
       omega) (rtop ra).length
      omega
     have hzd:dotp (rtop ra) (rtop cc)=psumI (fun i=>(ra.map (ctop (cden ra))).getD i 0*(cc.map (ctop (cden cc))).getD i 0) ra.length:=by
      unfold dotp
      rw [htl,psum_eq]
      rfl
     rw [← hzd] at hdot
     obtain ⟨z,EZ⟩:∃ x:Int,Hid (dotp (rtop ra) (rtop cc)=x):=⟨_,zh rfl⟩
     obtain ⟨D,ED⟩:∃ x:Nat,Hid (cden ra*cden cc=x):=⟨_,zh rfl⟩
     rw [EZ.out] at HDOT hz1 hdot
     rw [ED.out] at hprod hsp hdot
     have KZ:=zh hz1
     have KD:Hid (sz 1000000000 ((D:Nat):Int).natAbs≤549755813888):=zh (by rw [Int.natAbs_natCast];omega)
     have ND:Hid (((D:Nat):Int)≠0):=zh zo
     have SD:Hid (sgd D false=((D:Nat):Int)):=zh rfl
     have HW:Hid ((z:Rat) / ((((D:Nat):Int)):Rat)=dotQ ra cc):=zh (by rw [Rat.intCast_natCast];exact hdot)
     clear htl htc hrl hcl3 hcr hcq hpr hpq hprod hsp hdot hz1 hzd
     rw [HEQ.out] at HW
     obtain ⟨q,EQ⟩:∃ x:Rat,Hid (E r c=x):=⟨_,zh rfl⟩
     rw [EQ.out] at HW
     have HPW:=zh (HT.out.later (Bt hwb hbv))
     go_wp2_with fail
     refine wp_region_walk [(.pure,0),(.read,1),(.pure,2),(.pure,3),(.read,4),(.pure,5),(.read,6),(.pure,7),(.pure,8),(.read,9),(.ext,10),(.fin,11)] zk zk zR zP ?_
     repeat (first|(refine walk_pure0 rfl rfl fun J h=>?_;go_simp;refine h _ ?_;clear h J)|(refine walk_load rfl rfl rfl rfl fun J h=>?_;go_simp;refine h _ ?_;clear h J;try go_simp))
     refine walk_ext rfl rfl (fun w21 hb21 J hJ=>?_);go_simp
     replace G2:=zh (Mag.carry G2.out magA hb21)
     replace G4:=zh (Mag.carry G4.out magA hb21)
     refine ((times_ok _ _ (cden ra) (cden cc) _ magA magA KR.out KQ.out).mono (by rw [ED.out];exact fun _ _ h=>h)).mono ?_
     rintro e v21 ⟨v,rfl,hc21,hv⟩
     obtain ⟨paHm,lHm,caHm,rfl⟩:=hv.slice;have Hm:=zh hv;clear hv
     replace G2:=zh (Mag.later G2.out hc21)
     replace G4:=zh (Mag.later G4.out hc21)
     refine hJ _ _ hc21 ?_
     clear hJ J
     refine walk_fin [_] rfl (fun w14 hb14=>?_)
     have hx14:Below wr.heap.size wr w14:=belA
     replace Hm:=zh (Hm.out.later hb14)
     have q1':=(hx14.cell (p:=⟨b1,o1+r,none⟩) l1).trans q1
     have q3':=(hx14.cell (p:=⟨b3,o3+c,none⟩) l3).trans q3
     have x6':=(hx14.cell (p:=⟨X6,0,none⟩) z6).trans (x6 0)
     have x7':=(hx14.cell (p:=⟨X6+1,0,none⟩) z7).trans (x7 0)
     clear q1 q2 q3 q4 x6 x7 hb14 hb21 hc21 G2 G4
     have lG:=HF.out.lt
     have lMr:=HB.out.lt
     have h14s:=hx14.size
     go_wp2_with fail
     refine wp_region_walk [(.pure,0),(.read,1),(.pure,2),(.pure,3),(.read,4),(.pure,5),(.read,6),(.pure,7),(.pure,8),(.read,9),(.pure,11),(.ext,10),(.ext,12),(.ext,13),(.pure,14),(.pure,15),(.pure,16),(.alloc #[.string ⟨#[]⟩,.string ⟨#[]⟩] 59,17),(.fin,18),(.fin,19)] zk zk zR zP ?_
     repeat (first|(refine walk_pure0 rfl rfl fun J h=>?_;go_simp;refine h _ ?_;clear h J)|(refine walk_load rfl rfl rfl rfl fun J h=>?_;go_simp;refine h _ ?_;clear h J;try go_simp))
     refine walk_ext rfl rfl (fun w31 hb31 J hJ=>?_);go_simp
     replace Hm:=zh (Mag.carry Hm.out magA hb31)
     refine (HDOT.out _ belA).mono ?_
     rintro e v31 ⟨v,rfl,hc31,hv⟩
     obtain ⟨paHz,lHz,caHz,rfl,Hz⟩:=hv;replace Hz:=zh Hz
     replace Hm:=zh (Mag.later Hm.out hc31)
     refine hJ _ _ hc31 ?_
     clear hJ J
     refine walk_ext rfl rfl (fun w32 hb32 J hJ=>?_);go_simp
     replace Hz:=zh (Mag.later Hz.out hb32)
     refine ((signed_ok _ D false _ magA).mono (by rw [SD.out];exact fun _ _ h=>h)).mono ?_
     rintro e v32 ⟨v,rfl,hc32,hv⟩
     obtain ⟨paHs,lHs,caHs,rfl,Hs⟩:=hv;replace Hs:=zh Hs
     replace Hz:=zh (Mag.later Hz.out hc32)
     refine hJ _ _ hc32 ?_
     clear hJ J
     have hq2:okq q=true∨okq q=false:=by cases okq q<;>simp
     rcases hq2 with hq2|hq2
     ·have HWR:Hid (Fr.res (Fra.wr q)= .tuple #[.agg #[.string (Fr.of q).n,.string (Fr.of q).d],.int .i64 0]):=zh (by unfold Fra.wr;rw [if_pos hq2];rfl)
      have HOK:=zh hq2
      clear hq2
      obtain ⟨s1,Es1⟩:∃ x:ByteArray,Hid ((Fr.of q).n=x):=⟨_,zh rfl⟩
      obtain ⟨s2,Es2⟩:∃ x:ByteArray,Hid ((Fr.of q).d=x):=⟨_,zh rfl⟩
      rw [Es1.out,Es2.out] at HWR
      refine walk_ext rfl rfl (fun w33 hb33 J hJ=>?_);go_simp
      refine ((write_ok _ _ z ((D:Nat):Int) _ (IntV.of_neg magA) (IntV.of_neg magA) ND.out KZ.out KD.out (HPW.out.later belA)).mono (by rw [HW.out,HWR.out];exact fun _ _ h=>h)).mono ?_
      rintro e v33 ⟨rfl,hc33⟩
      refine hJ _ _ hc33 ?_
      clear hJ J
      repeat (first|(refine walk_pure0 rfl rfl fun J h=>?_;go_simp;refine h _ ?_;clear h J)|(refine walk_load rfl rfl rfl rfl fun J h=>?_;go_simp;refine h _ ?_;clear h J;try go_simp))
      refine walk_alloc rfl (fun b17 w17 hw17 hNb17 hltb17 hAb17 hxb17=>?_);go_simp;replace hxb17:Box _ _ _ _:=hxb17;have hWb17:w.heap.size≤b17:=(by first|omega|exact Nat.le_trans (Below.size (B:=w.heap.size) belA) hNb17)
      refine walk_fin [_,_] rfl (fun w18 hb18=>?_)
      replace hxb17:=Box.later (hxb17) hb18;replace chxb17:=hxb17.cell;replace fhxb17:=hxb17.free;replace lhxb17:=hxb17.lt
      have hx18:Below wr.heap.size wr w18:=belA
      have hN17:w14.heap.size≤b17:=hNb17
      replace HF:=zh (HF.out.laterF hx18)
      replace HB:=zh (HB.out.later hx18)
      replace HN:=zh (HN.out.below hx18)
      have ne1:wo.heap.size≠b17:=by omega
      have ne2:vb.heap.size≠b17:=by omega
      have ge1:wo.heap.size≤b17:=by omega
      clear q1' q3' x6' x7' hx14 hx18 hNb17 HDOT HPW
      go_wp2_with fail
      obtain ⟨w19,E19⟩:∃ y,(w18.setCell ⟨b17,0,none⟩ (.string s1)).setCell ⟨b17,1,none⟩ (.string s2)=y:=⟨_,rfl⟩
      replace HF:=zh ((HF.out.other (a:=⟨b17,0,none⟩) (.string s1) ne1).other (a:=⟨b17,1,none⟩) (.string s2) ne1)
      replace HB:=zh ((HB.out.setOther (a:=⟨b17,0,none⟩) (.string s1) ne2).setOther (a:=⟨b17,1,none⟩) (.string s2) ne2)
      replace HN:=zh ((HN.out.setNew ge1 0 (.string s1)).setNew ge1 1 (.string s2))
      have hx17:=(hxb17.set 0 (.string s1)).set 1 (.string s2)
      simp only [List.setIfInBounds_toArray,List.set_cons_zero,List.set_cons_succ] at hx17
      rw [E19] at HF HB HN hx17 ⊢
      clear E19 hxb17 chxb17 fhxb17 lhxb17
      have c17:=hx17.cell
      have l17:=hx17.lt
      have cM:=HB.out.cell r
      rw [Array.getElem?_setIfInBounds,if_pos rfl,if_pos hrs] at cM
      have lM9:=HB.out.lt
      refine wp_region_walk [(.pure,0),(.pure,1),(.pure,2),(.read,3),(.pure,4),(.read,5),(.pure,6),(.fin,7)] zk zk zR zP ?_
      repeat (first|(refine walk_pure0 rfl rfl fun J h=>?_;go_simp;refine h _ ?_;clear h J)|(refine walk_load rfl rfl rfl rfl fun J h=>?_;go_simp;refine h _ ?_;clear h J;try go_simp))
      refine walk_fin [_] rfl (fun w20 hb20=>?_)
      have hx20:Below w19.heap.size w19 w20:=belA
      replace HF:=zh (HF.out.laterF hx20)
      replace HB:=zh (HB.out.later hx20)
      replace HN:=zh (HN.out.below hx20)
      obtain ⟨⟨y1,cy1⟩,⟨y2,cy2⟩,fy⟩:=HF.out.cells hcl
      have lG20:=HF.out.lt
      clear hb20 hx20 c17 l17 cM lM9 hx17
      go_wp2_with fail
      go_roundw
      case rel =>
       refine ⟨c+1,by go_num,by omega,zh (HF.out.step hcl (fun _ _ _ h=>h) ⟨?_,?_⟩),zh fun i hi=>?_,zh ((HB.out.setOther _ hMG).setOther _ hMG),zh ((HN.out.setNew (Nat.le_refl _) _ _).setNew (Nat.le_refl _) _ _)⟩
       ·show Value.string s1= .string (Fr.of (E r c)).n
        rw [EQ.out,Es1.out]
       ·show Value.string s2= .string (Fr.of (E r c)).d
        rw [EQ.out,Es2.out]
       ·rcases Nat.lt_or_ge i c with h|h
        ·exact HKc.out i h
        ·obtain rfl:i=c:=by omega
         rw [EQ.out]
         exact HOK.out
      case measure=>exact zM
     ·have HWR:Hid (Fr.res (Fra.wr q)= .tuple #[.agg #[.string ⟨#[]⟩,.string ⟨#[]⟩],.int .i64 6]):=zh (wr_big hq2)
      have hbad:allQ MM=false:=by
       unfold allQ
       rw [List.all_eq_false]
       refine ⟨MM.getD r [],?_,?_⟩
       ·rw [getD_lt (show r<MM.length by rw [HML.out];exact hlt)]
        exact List.getElem_mem _
       ·rw [HMQ.out r hlt]
        simp only [List.all_map,Bool.not_eq_true]
        rw [List.all_eq_false]
        exact ⟨c,List.mem_range.2 hcl,by simp only [Function.comp];rw [EQ.out,hq2];simp⟩
      have her:er=6:=by rw [← HER.out,if_neg (by rw [hbad];simp)]
      have HE6:=zh her
      clear hq2 hbad her
      refine walk_ext rfl rfl (fun w33 hb33 J hJ=>?_);go_simp
      refine ((write_ok _ _ z ((D:Nat):Int) _ (IntV.of_neg magA) (IntV.of_neg magA) ND.out KZ.out KD.out (HPW.out.later belA)).mono (by rw [HW.out,HWR.out];exact fun _ _ h=>h)).mono ?_
      rintro e v33 ⟨rfl,hc33⟩
      refine hJ _ _ hc33 ?_
      clear hJ J
      repeat (first|(refine walk_pure0 rfl rfl fun J h=>?_;go_simp;refine h _ ?_;clear h J)|(refine walk_load rfl rfl rfl rfl fun J h=>?_;go_simp;refine h _ ?_;clear h J;try go_simp))
      refine walk_alloc rfl (fun b17 w17 hw17 hNb17 hltb17 hAb17 hxb17=>?_);go_simp;replace hxb17:Box _ _ _ _:=hxb17;have hWb17:w.heap.size≤b17:=(by first|omega|exact Nat.le_trans (Below.size (B:=w.heap.size) belA) hNb17)
      refine walk_fin [_,_] rfl (fun w18 hb18=>?_)
      replace hxb17:=Box.later (hxb17) hb18;replace chxb17:=hxb17.cell;replace fhxb17:=hxb17.free;replace lhxb17:=hxb17.lt
      have hx18:Below w.heap.size w w18:=Bt (Bt hwb hbv) belA
      have hN17:w14.heap.size≤b17:=hNb17
      have hwr:=(Bt hwb hbv).size
      clear q1' q3' x6' x7' hx14
      go_wp2_with fail
      go_ret2
      rw [HE6.out]
      exact MatPost.no ((hx18.setCell (by simp;omega) _).setCell (by simp;omega) _) zd
    ·have hcn2:n=c:=by omega
     subst hcn2
     go_wp2_with fail
     go_roundw
     case rel =>
      have hbv:Below vb.heap.size vb wr:=HN.out.toBelow hb (Nat.le_refl _)
      refine ⟨r+1,by go_num,by omega,zh (HM.out.step (v:=.slice (some ⟨wo.heap.size,0,none⟩) n n) hlt HN.out (fun arr hA=>?_) ?_),zh fun i hi c hc=>?_,hbv⟩
      ·have hAM:arr=arrM:=Fra.Box.uniq hA HBM.out
       rw [hAM]
       exact HB.out
      ·refine Fill.frs (HF.out.congrF fun i hi=>?_) zi zo
       simp [hi]
      ·rcases Nat.lt_or_ge i r with h|h
       ·exact HK.out i h c hc
       ·obtain rfl:i=r:=by omega
        exact HKc.out c hc
     case measure=>exact zM
  ·have hrn:na=r:=by omega
   subst hrn
   have hall:allQ MM=true:=by
    unfold allQ
    rw [List.all_eq_true]
    intro x hx
    obtain ⟨i,hi,rfl⟩:=List.getElem_of_mem hx
    rw [HML.out] at hi
    have e:=HMQ.out i hi
    rw [getD_lt (show i<MM.length by rw [HML.out];exact hi)] at e
    rw [e,List.all_eq_true]
    intro q hq
    obtain ⟨c,hc,rfl⟩:=List.mem_map.1 hq
    exact HK.out i hi c (List.mem_range.1 hc)
   have her:er=0:=by rw [← HER.out,if_pos hall]
   have hmv:MatV wo (.slice (some ⟨vb.heap.size,0,none⟩) na na) MM.fr:=by
    have e1:MM.fr.length=na:=by unfold RM.fr;rw [List.length_map];exact HML.out
    have:MatV wo (.slice (some ⟨vb.heap.size,0,none⟩) MM.fr.length MM.fr.length) MM.fr:=by
     refine MFill.matV ?_ zo
     rw [e1]
     obtain ⟨arr,k1,k2,k3⟩:=HM.out
     refine ⟨arr,k1,k2,fun i hi=>?_⟩
     have e2:MM.fr.getD i []=((List.range n).map (E i)).map Fr.of:=by
      rw [← HMQ.out i hi]
      simp [RM.fr,show i<List.length MM by rw [HML.out];exact hi]
     show ∃ v,arr[i]? =some v∧Frs wo 59 v (MM.fr.getD i [])
     rw [e2]
     exact k3 i hi
    rw [e1] at this
    exact this
   have HMV:=zh hmv
   have HE0:=zh her
   clear hall hmv her
   go_wp2_with fail
   go_ret2
   rw [HE0.out]
   exact MatPost.yes (Bt hwb hb) HMV.out
theorem run_copy_elems (P:Program) (w:World) (dT sT ty elem:TypeId) (g o dLen dCap size:Nat) (a:Addr) (sLen sCap:Nat) (cur:Array Value) (t:TypeId) (cs:List Value)
  (hu:P.underlying dT=some (.slice elem)) (hs:(P.info? elem).map (·.size)=some size)
  (hg:w.heap[g]? =some (.cells cur t (0,0))) (hn:cs.length=Nat.min sLen dLen*size)
  (hsrc:∀ j v,cs[j]? =some v→w.cell? (a.add j)=some v) (hfit:o+cs.length≤cur.size) (h1:∀ v∈cs,v.oneCell'=true) :
  (Builtin.copy_ #[dT,sT] ty #[.slice (some ⟨g,o,none⟩) dLen dCap,.slice (some a) sLen sCap]).run P w =
   .ok (goInt (Nat.min sLen dLen)) (w.setRow g (cur.toList.take o++cs++cur.toList.drop (o+cs.length)).toArray):=by
 have hl:=run_loadCells_list (P:=P) w a cs hsrc
 have hst:=run_storeCells_at P g o t cs 0 cur w hg (by simpa using hfit) h1
 cases hq:P.info? elem with
 | none=>simp [hq] at hs
 | some i =>
  have hi:i.size=size:=by simpa [hq] using hs
  simp [Builtin.copy_,run_underlying hu,Builtin.lenOf,Builtin.firstCells,sizeOf,typeInfo,hq,hi,← hn,hl,hst]
theorem IntsV.raw {w:World} {a:Option Addr} {n c:Nat} {l:List Int} (h:IntsV w (.slice a n c) l) (h0:0<n) :
  n=l.length∧∃ b off,∃ cs:List Value,a=some ⟨b,off,none⟩∧b<w.heap.size∧cs.length=n*2∧(∀ j v,cs[j]? =some v→w.cell? ⟨b,off+j,none⟩=some v)∧(∀ v∈cs,v.oneCell'=true) ∧
   ∀ i,i<n→∃ x y,cs[i*2]? =some x∧cs[i*2+1]? =some y∧IntC (fun i=>l.getD i 0) w i x y:=by
 obtain ⟨a',c',e,h2,h3,h4,h5⟩:=h
 simp only [Value.slice.injEq] at e
 obtain ⟨rfl,rfl,rfl⟩:=e
 refine ⟨rfl,?_⟩
 cases a with
 | none=>have:=h4 rfl;omega
 | some ad =>
  obtain ⟨h6,arr,h7,h8⟩:=h5 ad rfl
  obtain ⟨b,off,sp⟩:=ad
  simp only at h6
  subst h6
  have key:∀ k,k<l.length*2→∃ v,arr[off+k]? =some v∧v.oneCell'=true:=fun k hk=>by
   obtain ⟨x,y,k1,k2,pa,m,ca,k3,k4, -⟩:=h8 (k / 2) zo
   subst k3 k4
   rcases Nat.mod_two_eq_zero_or_one k with e|e
   ·have e2:off+k=off+k / 2*2:=by omega
    rw [e2]
    exact ⟨_,k1,rfl⟩
   ·have e2:off+k=off+k / 2*2+1:=by omega
    rw [e2]
    exact ⟨_,k2,rfl⟩
  have hget:∀ k (h:k<l.length*2),((List.range (l.length*2)).map fun k=>(arr[off+k]?).getD undef)[k]? =arr[off+k]? :=fun k hk=>by
   obtain ⟨v,hv, -⟩:=key k hk
   simp only [List.getElem?_map,List.getElem?_range hk,Option.map_some,hv,Option.getD_some]
  refine ⟨b,off,(List.range (l.length*2)).map fun k=>(arr[off+k]?).getD undef,rfl,h7.lt,by simp,fun j v hv=>?_,fun v hv=>?_,fun i hi=>?_⟩
  ·have hj:j<l.length*2:=by
    have:=(List.getElem?_eq_some_iff.1 hv).1
    simpa using this
   rw [hget j hj] at hv
   exact (h7.cell _).trans hv
  ·obtain ⟨k,hk,rfl⟩:=List.mem_map.1 hv
   obtain ⟨u,hu,h1⟩:=key k (List.mem_range.1 hk)
   simp only [hu,Option.getD_some]
   exact h1
  ·obtain ⟨x,y,k1,k2,k3⟩:=h8 i hi
   exact ⟨x,y,by rw [hget _ zo];exact k1,by rw [hget _ zo,← k2,Nat.add_assoc],k3⟩
theorem made_ints (n:Nat) (hn:n≤1000) (z:Int) (hz:z=(n:Int)):∃ cs:Array Value,cs.size=n*2∧(∀ i,i<n→cs[i*2]? =some (.slice none 0 0)∧cs[i*2+1]? =some (.bool false))∧∀ W:World,(Instr.makeSlice 114 (.int .i64 z) (.int .i64 z)).run Tryz.prog W= .ok (.slice (some ⟨W.heap.size,0,none⟩) n n) (W.alloc (.cells cs 112)):=by
 subst hz
 obtain ⟨i0,hi,hz0,hz1,hz2⟩:=info_parts infoI
 refine ⟨madeCells (Value.agg #[.slice none 0 0,.bool false]).cells (n*2),size_madeCells _ _,fun i hi=>?_,fun W=>?_⟩
 ·have e:(Value.agg #[.slice none 0 0,.bool false]).cells=#[.slice none 0 0,.bool false]:=rfl
  rw [e]
  unfold madeCells
  constructor
  ·rw [Array.getElem?_map,Array.getElem?_range,if_pos zo]
   simp
  ·rw [Array.getElem?_map,Array.getElem?_range,if_pos zo]
   simp [Nat.add_mod]
 ·have:=run_makeSlice (P:=Tryz.prog) W 114 112 i0 (.agg #[.slice none 0 0,.bool false]) Tryz.underlying114 hi hz0 .i64 .i64 (n:Int) (n:Int) zo (Int.le_refl _) (by rw [hz1];simp;omega) (by rw [hz2];omega) zo
  rw [hz1] at this
  simpa using this
theorem made_rows (n:Nat) (hn:n≤1000):∃ cs:Array Value,cs.size=n∧∀ W:World,(Instr.makeSlice 102 (.int .i64 (n:Int)) (.int .i64 (n:Int))).run Tryz.prog W= .ok (.slice (some ⟨W.heap.size,0,none⟩) n n) (W.alloc (.cells cs 114)):=by
 obtain ⟨i0,hi,hz0,hz1,hz2⟩:=info_parts infoRow
 refine ⟨madeCells (Value.slice none 0 0).cells n,size_madeCells _ _,fun W=>?_⟩
 have:=run_makeSlice (P:=Tryz.prog) W 102 114 i0 (.slice none 0 0) Tryz.underlying102 hi hz0 .i64 .i64 (n:Int) (n:Int) zo (Int.le_refl _) (by rw [hz1];simp;omega) (by rw [hz2];omega) zo
 rw [hz1] at this
 simpa using this
theorem Fill.putI {w w':World} {G n j:Nat} {f:Nat→Int} {pa:Option Addr} {l ca:Nat} {z:Int} {b:Bool} (h:Fill w G 112 n n (IntC f)) (hj:j<n) (hb:b=decide (z<0))
  (hB:Below w.heap.size ((w.setCell ⟨G,j*2,none⟩ (.slice pa l ca)).setCell ⟨G,j*2+1,none⟩ (.bool b)) w') (hm:Mag w' (.slice pa l ca) z.natAbs) :
  Fill w' G 112 n n (IntC fun c=>if c=j then z else f c):=by
 subst hb
 have isG:=h.isT
 have hB2:Below ((w.setCell ⟨G,j*2,none⟩ (.slice pa l ca)).setCell ⟨G,j*2+1,none⟩ (.bool (decide (z<0)))).heap.size ((w.setCell ⟨G,j*2,none⟩ (.slice pa l ca)).setCell ⟨G,j*2+1,none⟩ (.bool (decide (z<0)))) w':=by simpa using hB
 obtain ⟨arr,h1,h2,h3⟩:=h
 refine ⟨(arr.setIfInBounds (j*2) (.slice pa l ca)).setIfInBounds (j*2+1) (.bool (decide (z<0))),((h1.set _ _).set _ _).later hB2,by simp [h2],fun i hi=>?_⟩
 by_cases e:i=j
 ·subst e
  refine ⟨.slice pa l ca,.bool (decide (z<0)),?_,?_,?_⟩
  ·rw [Array.getElem?_setIfInBounds,if_neg zo,Array.getElem?_setIfInBounds,if_pos rfl,if_pos zo]
  ·rw [Array.getElem?_setIfInBounds,if_pos rfl,if_pos (by simp;omega)]
  ·have e:(fun c=>if c=i then z else f c) i=z:=by simp
   unfold IntC
   rw [e]
   exact ⟨_,_,_,rfl,rfl,hm⟩
 ·obtain ⟨x',y',k1,k2,k3⟩:=h3 i hi
  refine ⟨x',y',?_,?_,?_⟩
  ·rw [Array.getElem?_setIfInBounds,if_neg zo,Array.getElem?_setIfInBounds,if_neg zo,k1]
  ·rw [Array.getElem?_setIfInBounds,if_neg zo,Array.getElem?_setIfInBounds,if_neg zo,k2]
  ·have k4:=IntC.later hB2 _ _ _ (IntC.setT (o:=j*2+1) (u:=.bool (decide (z<0))) (isG.setCell (a:=⟨G,j*2,none⟩) (u:=.slice pa l ca)) zd _ _ _ (IntC.setT isG zd _ _ _ k3))
   unfold IntC at *
   simp only [if_neg e]
   exact k4
def RFill (w:World) (M n k:Nat) (f:Nat→List Int):Prop :=
 ∃ arr,Box w M arr 114∧arr.size=n∧∀ i,i<k→∃ v,arr[i]? =some v∧IntsV w v (f i)
theorem RFill.lt {w:World} {M n k:Nat} {f:Nat→List Int} (h:RFill w M n k f):M<w.heap.size:=by
 obtain ⟨arr,h1, -⟩:=h
 exact h1.lt
theorem RFill.cell {w:World} {M n k:Nat} {f:Nat→List Int} (h:RFill w M n k f) {j:Nat} (hj:j<n):(∃ x,w.cell? ⟨M,j,none⟩=some x)∧∀ o,w.frozen? ⟨M,o,none⟩=false:=by
 obtain ⟨arr,h1,h2, -⟩:=h
 exact ⟨⟨arr[j]'zo,by rw [h1.cell];exact Array.getElem?_eq_getElem _⟩,h1.free⟩
theorem IntsV.near {w w':World} {M:Nat} {v:Value} {l:List Int} (h:IntsV w v l) (k:Near w w' M) (hM:IsT w M 114):IntsV w' v l:=by
 obtain ⟨a,cap,h1,h2,h3,h4,h5⟩:=h
 obtain ⟨cs,hM⟩:=hM
 refine ⟨a,cap,h1,h2,h3,h4,fun ad had=>?_⟩
 obtain ⟨h6,arr,h7,h8⟩:=h5 ad had
 refine ⟨h6,arr,k.box h7 (h7.ne hM zd),fun i hi=>?_⟩
 obtain ⟨x,y,k1,k2,pa,n,ca,k3,k4,k5⟩:=h8 i hi
 refine ⟨x,y,k1,k2,pa,n,ca,k3,k4,?_⟩
 obtain ⟨a',cap',g1,g2,g3,g4,g5⟩:=k5
 refine ⟨a',cap',g1,g2,g3,g4,fun ad had=>?_⟩
 obtain ⟨g6,arr',g7,g8⟩:=g5 ad had
 have g7':Box w ad.block arr' 65:=g7
 exact ⟨g6,arr',k.box g7' (g7'.ne hM zd),g8⟩
theorem RFill.step {w w':World} {M n k:Nat} {f:Nat→List Int} {v:Value} (h:RFill w M n k f) (hk:k<n) (hn:Near w w' M)
  (hb:∀ arr,Box w M arr 114→Box w' M (arr.setIfInBounds k v) 114) (hv:IntsV w' v (f k)):RFill w' M n (k+1) f:=by
 obtain ⟨arr,h1,h2,h3⟩:=h
 refine ⟨arr.setIfInBounds k v,hb _ h1,by simp [h2],fun i hi=>?_⟩
 rcases Nat.lt_or_ge i k with h|h
 ·obtain ⟨u,k1,k2⟩:=h3 i h
  refine ⟨u,?_,IntsV.near k2 hn h1.isT⟩
  rw [Array.getElem?_setIfInBounds,if_neg zo,k1]
 ·obtain rfl:i=k:=by omega
  refine ⟨v,?_,hv⟩
  rw [Array.getElem?_setIfInBounds,if_pos rfl,if_pos zo]
theorem setRow_size (w:World) (g:Nat) (cs:Array Value):(w.setRow g cs).heap.size=w.heap.size:=by simp [World.setRow]
theorem Near.setRow {a w:World} {B g:Nat} (h:Near a w B) (hg:a.heap.size≤g) (cs:Array Value):Near a (w.setRow g cs) B :=
 ⟨h.os,h.tape,h.output,by rw [setRow_size];exact h.size,fun i hi hne=>(setRow_other w g i cs zo).trans (h.block i hi hne)⟩
theorem Keep.setRow {w:World} {g:Nat} {T:TypeId} {arr cs:Array Value} (h:Box w g arr T):Keep [T] w (w.setRow g cs):=fun b xs T' hT hx=>by
 have hne:b≠g:=fun e=>by
  subst e
  have:=Fra.Box.uniq hx h
  unfold Box at hx h
  rw [h] at hx
  injection hx with e
  injection e with _ e2
  exact hT (by simp [e2])
 unfold Box at *
 rw [setRow_other w g b cs hne]
 exact hx
theorem copied {w:World} {G n N:Nat} {l:List Int} {csi:Array Value} {cs:List Value} (hG:Box w G csi 112) (hs:csi.size=N*2) (hz:∀ i,i<N→csi[i*2]? =some (.slice none 0 0)∧csi[i*2+1]? =some (.bool false)) (hn:n≤N) (hl:cs.length=n*2)
  (hc:∀ i,i<n→∃ x y,cs[i*2]? =some x∧cs[i*2+1]? =some y∧IntC (fun i=>l.getD i 0) w i x y) :
  Fill (w.setRow G (csi.toList.take 0++cs++csi.toList.drop (0+cs.length)).toArray) G 112 N N (IntC fun i=>if i<n then l.getD i 0 else 0):=by
 have hk:Keep [112] w (w.setRow G (csi.toList.take 0++cs++csi.toList.drop (0+cs.length)).toArray):=Keep.setRow hG
 refine ⟨_,setRow_heap w G _ _ _ _ hG,?_,fun i hi=>?_⟩
 ·simp [hl,hs]
  omega
 ·simp only [List.take_zero,List.nil_append,Nat.zero_add,List.getElem?_toArray]
  by_cases h:i<n
  ·obtain ⟨x,y,k1,k2,k3⟩:=hc i h
   refine ⟨x,y,?_,?_,?_⟩
   ·rw [List.getElem?_append_left zo,k1]
   ·rw [List.getElem?_append_left zo,k2]
   ·have k4:=IntC.kept hk zd _ _ _ k3
    unfold IntC at *
    simp only [List.take_zero,List.nil_append,Nat.zero_add] at k4
    simp only [if_pos h]
    exact k4
  ·obtain ⟨k1,k2⟩:=hz i hi
   refine ⟨.slice none 0 0,.bool false,?_,?_,?_⟩
   ·rw [List.getElem?_append_right zo,List.getElem?_drop,hl,show n*2+(i*2 - n*2)=i*2 by omega,Array.getElem?_toList,k1]
   ·rw [List.getElem?_append_right zo,List.getElem?_drop,hl,show n*2+(i*2+1 - n*2)=i*2+1 by omega,Array.getElem?_toList,k2]
   ·unfold IntC
    simp only [if_neg h]
    exact ⟨none,0,0,rfl,rfl,Mag.zero _⟩
theorem extended_ok (v:Value) (rs:IM) (n:Nat) (w:World) (h:RowsI w v rs) (hl:rs.length=n) (hr:∀ i,i<n→(rs.getD i []).length=n) (h1:1≤n) (h4:n≤4) :
  Calls Tryz.prog 77 #[v] w (fun e w'=>∃ B,e= .returned (.slice (some ⟨B,0,none⟩) n n)∧w.heap.size≤B∧Below w.heap.size w w'∧RowsB w' B 0 n (fun i=>(ext rs).getD i [])):=by
 obtain ⟨rv,hR, -, -⟩:=id h
 obtain ⟨a,cap,rfl,hcap, -⟩:=hR
 obtain ⟨hn,hread⟩:=RowsI_read h
 rw [hl] at hn
 rw [hn] at h hcap ⊢
 have HRD:Hid (∀ k,k<n→∃ b off pa cc,a=some ⟨b,off,none⟩∧b<w.heap.size∧w.cell? ⟨b,off+k,none⟩=some (.slice pa n cc)∧IntsV w (.slice pa n cc) (rs.getD k [])):=zh fun k hk=>by
  obtain ⟨b,off,pa,m,cc,k1,k2,k3,k4⟩:=hread k zo
  have e:rs.getD k []=rs[k]:=getD_lt zo
  obtain ⟨_,_,e3, -⟩:=k4.read
  simp only [Value.slice.injEq] at e3
  have e4:m=n:=by rw [e3.2.1,← e];exact hr k hk
  subst e4
  exact ⟨b,off,pa,cc,k1,k2,k3,e ▸ k4⟩
 obtain ⟨csm,hcsm,hmk⟩:=made_rows n zo
 obtain ⟨csi,hcsi,hcsz,hmki⟩:=made_ints (2*n) zo (2*(n:Int)) zo
 have HS1:=zh hcsm
 have HS2:=zh hcsi
 have HS3:=zh hcsz
 have HL:=zh hl
 have HLR:=zh hr
 clear h hn hread hcsm hcsi hcsz hl hr hcap
 go_enter Tryz.func77,Tryz.ntmps77
 go_wp2_with fail
 have HM:Hid (RFill (w.alloc (.cells csm 114)) w.heap.size n 0 (fun k=>(ext rs).getD k [])):=zh ⟨csm,Box.new _ _ _,HS1.out,fun i hi=>by omega⟩
 have hb0:Below w.heap.size w (w.alloc (.cells csm 114)):=belA
 clear hmk HS1
 go_loopw [11] (fun iv wr=>∃ i:Nat,iv= .int .i64 (i:Int)∧i≤n∧Hid (RFill wr w.heap.size n i (fun k=>(ext rs).getD k []))∧Below w.heap.size w wr) (fun iv _=>n - (intOf iv).toNat)
 case atStart=>exact ⟨0,rfl,by omega,HM,hb0⟩
 case round =>
  clear HM hb0
  obtain ⟨i,rfl,hin,HM,hb⟩:=hrel
  have lM:=HM.out.lt
  rcases Nat.lt_or_ge i n with hlt|hge
  ·have hlt2:(i:Int)<(n:Int):=by omega
   obtain ⟨⟨y1,cy1⟩,fy⟩:=HM.out.cell hlt
   obtain ⟨b,off,pa,cc,rfl,lb,cb,hiv⟩:=HRD.out i hlt
   have cbo:=(hb.cell (p:=⟨b,off+i,none⟩) lb).trans cb
   have lbo:=Nat.lt_of_lt_of_le lb hb.size
   obtain ⟨wo,hwo⟩:∃ y,y=wr:=⟨_,rfl⟩
   subst hwo
   obtain ⟨arrM,bM,hsz, -⟩:=id HM.out
   obtain ⟨W1,EW1⟩:∃ y,(wo.setCell ⟨w.heap.size,i,none⟩ (.slice (some ⟨wo.heap.size,0,none⟩) (2*n) (2*n))).alloc (.cells csi 112)=y:=⟨_,rfl⟩
   have hN1:Near wo W1 w.heap.size:=by rw [← EW1];exact ((Near.refl wo _).set _ _).below belA
   have hM1:Box W1 w.heap.size (arrM.setIfInBounds i (.slice (some ⟨wo.heap.size,0,none⟩) (2*n) (2*n))) 114:=by rw [← EW1];exact (bM.set _ _).alloc _
   have hG1:Box W1 wo.heap.size csi 112:=by rw [← EW1];exact Box.new_at zi
   have hiv1:IntsV W1 (.slice pa n cc) (rs.getD i []):=IntsV.near (hiv.later hb) hN1 bM.isT
   obtain ⟨-, b2,off2,cs,rfl,lb2,hcl,hc1,hc2,hc3⟩:=IntsV.raw hiv1 zo
   have hcp:∀ ty,(Builtin.copy_ #[114,114] ty #[.slice (some ⟨wo.heap.size,0,none⟩) (2*n) (2*n),.slice (some ⟨b2,off2,none⟩) n cc]).run Tryz.prog W1= .ok (goInt n) (W1.setRow wo.heap.size (csi.toList.take 0++cs++csi.toList.drop (0+cs.length)).toArray):=fun ty=>by
    obtain ⟨i0,hi,hz0,hz1,hz2⟩:=info_parts infoI
    have:=run_copy_elems Tryz.prog W1 114 114 ty 112 wo.heap.size 0 (2*n) (2*n) 2 ⟨b2,off2,none⟩ n cc csi 112 cs Tryz.underlying114 (by rw [hi];simp [hz1]) hG1 (by rw [hcl,show Nat.min n (2*n)=n from Nat.min_eq_left zo]) (fun j v hv=>by rw [Addr.add_lit];exact hc1 j v hv) (by rw [hcl,HS2.out];omega) hc2
    rw [show Nat.min n (2*n)=n from Nat.min_eq_left zo] at this
    exact this
   obtain ⟨W2,EW2⟩:∃ y,W1.setRow wo.heap.size (csi.toList.take 0++cs++csi.toList.drop (0+cs.length)).toArray=y:=⟨_,rfl⟩
   have hF2:Fill W2 wo.heap.size 112 (2*n) (2*n) (IntC fun j=>if j<n then (rs.getD i []).getD j 0 else 0):=by rw [← EW2];exact copied hG1 HS2.out HS3.out zo hcl hc3
   have hN2:Near wo W2 w.heap.size:=by rw [← EW2];exact Near.setRow hN1 (Nat.le_refl _) _
   have hM2:Box W2 w.heap.size (arrM.setIfInBounds i (.slice (some ⟨wo.heap.size,0,none⟩) (2*n) (2*n))) 114:=by rw [← EW2];exact Keep.setRow hG1 _ _ _ zd hM1
   rw [EW2] at hcp
   have HBM:=zh bM
   have HF2:=zh hF2
   have HN2:=zh hN2
   have HM2:=zh hM2
   have cM2:=hM2.cell i
   rw [Array.getElem?_setIfInBounds,if_pos rfl,if_pos (show i<arrM.size by omega)] at cM2
   have cM1:=hM1.cell i
   rw [Array.getElem?_setIfInBounds,if_pos rfl,if_pos (show i<arrM.size by omega)] at cM1
   have lM2:=hM2.lt
   have lG2:=hF2.lt
   obtain ⟨⟨z1,cz1⟩,⟨z2,cz2⟩,fz⟩:=hF2.cells (j:=n+i) zo
   clear hF2 hN2 hM2 bM hG1 hM1 hN1 hiv1 hiv hc1 hc2 hc3 EW2
   go_wp2_with fail
   have hne:w.heap.size≠wo.heap.size:=by omega
   have hb2:Below W2.heap.size ((W2.setCell ⟨wo.heap.size,(n+i)*2,none⟩ (.slice (some ⟨W2.heap.size,0,none⟩) 1 1)).setCell ⟨wo.heap.size,(n+i)*2+1,none⟩ (.bool false)) (((W2.setCell ⟨wo.heap.size,(n+i)*2,none⟩ (.slice (some ⟨W2.heap.size,0,none⟩) 1 1)).setCell ⟨wo.heap.size,(n+i)*2+1,none⟩ (.bool false)).alloc (.cells #[.int .u32 1] 65)):=(Below.refl _ _).alloc zi _
   have hm1:Mag (((W2.setCell ⟨wo.heap.size,(n+i)*2,none⟩ (.slice (some ⟨W2.heap.size,0,none⟩) 1 1)).setCell ⟨wo.heap.size,(n+i)*2+1,none⟩ (.bool false)).alloc (.cells #[.int .u32 1] 65)) (.slice (some ⟨W2.heap.size,0,none⟩) 1 1) ((1:Int).natAbs):=by
    have:=Mag.lit (w:=(W2.setCell ⟨wo.heap.size,(n+i)*2,none⟩ (.slice (some ⟨W2.heap.size,0,none⟩) 1 1)).setCell ⟨wo.heap.size,(n+i)*2+1,none⟩ (.bool false)) (d:=1) zo zo
    simpa using this
   have hF3:=Fill.putI HF2.out zo (z:=1) (b:=false) rfl hb2 hm1
   have hN3:=(((HN2.out.setNew (Nat.le_refl _) ((n+i)*2) (.slice (some ⟨W2.heap.size,0,none⟩) 1 1)).setNew (Nat.le_refl _) ((n+i)*2+1) (.bool false)).below (w':=((W2.setCell ⟨wo.heap.size,(n+i)*2,none⟩ (.slice (some ⟨W2.heap.size,0,none⟩) 1 1)).setCell ⟨wo.heap.size,(n+i)*2+1,none⟩ (.bool false)).alloc (.cells #[.int .u32 1] 65)) belA)
   have hM3:=((HM2.out.setOther (a:=⟨wo.heap.size,(n+i)*2,none⟩) (.slice (some ⟨W2.heap.size,0,none⟩) 1 1) hne).setOther (a:=⟨wo.heap.size,(n+i)*2+1,none⟩) (.bool false) hne).alloc (.cells #[.int .u32 1] 65 (0,0))
   have hL:=HL.out
   have hrow:(ext rs).getD i []=(List.range (2*n)).map fun j=>if j<n then rs.at i j else if j=n+i then 1 else 0:=by
    unfold ext
    rw [hL,getD_lt (show i<_ by simp;omega)]
    simp
   have hlen:((ext rs).getD i []).length=2*n:=by rw [hrow];simp
   have hiv3:IntsV (((W2.setCell ⟨wo.heap.size,(n+i)*2,none⟩ (.slice (some ⟨W2.heap.size,0,none⟩) 1 1)).setCell ⟨wo.heap.size,(n+i)*2+1,none⟩ (.bool false)).alloc (.cells #[.int .u32 1] 65)) (.slice (some ⟨wo.heap.size,0,none⟩) (2*n) (2*n)) ((ext rs).getD i []):=by
    have:=IntsV.of_fill (l:=(ext rs).getD i []) (g:=wo.heap.size) (w:=((W2.setCell ⟨wo.heap.size,(n+i)*2,none⟩ (.slice (some ⟨W2.heap.size,0,none⟩) 1 1)).setCell ⟨wo.heap.size,(n+i)*2+1,none⟩ (.bool false)).alloc (.cells #[.int .u32 1] 65)) (by
     rw [hlen]
     obtain ⟨arr,g1,g2,g3⟩:=hF3
     refine ⟨arr,g1,g2,fun j hj=>?_⟩
     obtain ⟨x,y,y1,y2,pa,l,ca,y3,y4,y5⟩:=g3 j hj
     have e:((ext rs).getD i []).getD j 0=if j=n+i then 1 else if j<n then (rs.getD i []).getD j 0 else 0:=by
      rw [hrow,getD_lt (show j<_ by simp;omega)]
      simp only [List.getElem_map,List.getElem_range]
      unfold IM.at
      by_cases e1:j=n+i
      ·rw [if_neg zo,if_pos e1,if_pos e1]
      ·rw [if_neg e1,if_neg e1]
     exact ⟨x,y,y1,y2,pa,l,ca,y3,by simp only [e];exact y4,by simp only [e];exact y5⟩) (by rw [hlen];omega)
    rw [hlen] at this
    exact this
   refine ⟨⟨i+1,by go_num,by omega,zh (HM.out.step hlt hN3 (fun arr hA=>?_) hiv3),hN3.toBelow hb (Nat.le_refl _)⟩,by simp only [intOf];omega⟩
   rw [Fra.Box.uniq hA HBM.out]
   exact hM3
  ·have hiN:n=i:=by omega
   subst hiN
   go_wp2_with fail
   go_ret
   obtain ⟨arr,k1,k2,k3⟩:=HM.out
   exact ⟨_,rfl,Nat.le_refl _,hb,arr,k1,fun k hk=>by rw [Nat.zero_add];exact k3 k hk⟩
theorem quot_any (v u:Value) (z y:Int) (w:World) (h:IntV w v z) (h2:IntV w u y) (hy:y≠0) (kz:sz 1000000000 z.natAbs≤549755813888) :
  Calls Tryz.prog 184 #[v,u] w (fun e w'=>∃ v,e= .returned v∧Below w.heap.size w w'∧IntV w' v (quo z y)):=by
 obtain ⟨paH,lH,caH,rfl,H⟩:=h;replace H:=zh H
 obtain ⟨paH2,lH2,caH2,rfl,H2⟩:=h2;replace H2:=zh H2
 have KZ:=zh kz
 have HY:=zh hy
 clear kz hy
 go_enter Tryz.func184,Tryz.ntmps184
 go_wp2_with fail
 refine (divide_ok _ _ z.natAbs y.natAbs _ magA magA (Int.natAbs_pos.mpr HY.out) KZ.out).mono ?_
 rintro e v1 ⟨v,vr,rfl,hc1,hv,hvr⟩
 obtain ⟨paHQ,lHQ,caHQ,rfl⟩:=hv.slice;have HQ:=zh hv;clear hv;obtain ⟨paHQr,lHQr,caHQr,rfl⟩:=hvr.slice;have HQr:=zh hvr;clear hvr
 have BR:=Box.later (Box.at2 _ _ _ _ _) hc1;have cBR:=BR.cell;have fBR:=BR.free;have lBR:=BR.lt
 have B1:=Box.later (Box.alloc (Box.at1 _ _ _ _) _) hc1;have cB1:=B1.cell;have fB1:=B1.free;have lB1:=B1.lt
 have B0:=Box.later (Box.alloc (Box.alloc (Box.new _ _ _) _) _) hc1;have cB0:=B0.cell;have fB0:=B0.free;have lB0:=B0.lt
 go_wp2_with fail
 refine (signed_ok _ (z.natAbs / y.natAbs) _ _ magA).mono ?_
 rintro e v2 ⟨v,rfl,hc2,hv⟩
 obtain ⟨paHT,lHT,caHT,rfl,HT⟩:=hv;replace HT:=zh HT
 replace BR:=Box.later (BR) hc2;replace cBR:=BR.cell;replace fBR:=BR.free;replace lBR:=BR.lt
 go_wp2_with fail
 refine ret_c rfl rfl boxA Tryz.underlying112 rfl zk ?_
 exact ⟨_,rfl,belA,(IntV.of_neg magA).cast rfl⟩
theorem combined_ok (v u vd:Value) (xs ys:List Int) (k:Nat) (d:Int) (w:World) (hx:IntsV w v xs) (hy:IntsV w u ys) (hd:IntV w vd d) (hl:ys.length=xs.length) (hk:k<xs.length) (hn:xs.length≤1000) (h0:d≠0)
  (k1:∀ i,sz 1000000000 (xs.getD i 0).natAbs≤1000000000) (k2:∀ i,sz 1000000000 (ys.getD i 0).natAbs≤1000000000) :
  Calls Tryz.prog 133 #[v,u,.int .i64 (k:Int),vd] w (fun e w'=>∃ g m c,e= .returned (.slice (some ⟨g,0,none⟩) m c)∧w.heap.size≤g∧Below w.heap.size w w'∧IntsV w' (.slice (some ⟨g,0,none⟩) m c) (comb xs ys k d)):=by
 obtain ⟨i0,hi,hz0,hz1,hz2⟩:=info_parts infoI
 obtain ⟨ax,capx,rfl,hcx1,hcx2,hrx⟩:=hx.read
 obtain ⟨ay,capy,rfl,hcy1,hcy2,hry⟩:=hy.read
 rw [hl] at hry ⊢
 rw [hl] at hcy1
 obtain ⟨paHD,lHD,caHD,rfl,HD⟩:=hd;replace HD:=zh HD
 obtain ⟨bk,ofk,pk,nk,ck,rfl,lk1,lk2,lk3,lk4⟩:=hrx k hk
 obtain ⟨bj,ofj,pj,nj,cj,rfl,lj1,lj2,lj3,lj4⟩:=hry k hk
 have HRX:=zh hrx
 have HRY:=zh hry
 have HX:=zh (fun i=>Nat.le_trans (k1 i) (show 1000000000≤549755813888 by omega))
 have HY:=zh (fun i=>Nat.le_trans (k2 i) (show 1000000000≤549755813888 by omega))
 have HZ:Hid (∀ j,sz 1000000000 (ys.getD k 0*xs.getD j 0).natAbs≤549755813888∧sz 1000000000 (-(xs.getD k 0*ys.getD j 0)).natAbs≤549755813888∧sz 1000000000 (ys.getD k 0*xs.getD j 0+ -(xs.getD k 0*ys.getD j 0)).natAbs≤549755813888):=zh fun j=>by
  have a1:=sz_absmul2 (ys.getD k 0) (xs.getD j 0)
  have a2:=sz_absmul2 (xs.getD k 0) (ys.getD j 0)
  have a3:=sz_absadd (ys.getD k 0*xs.getD j 0) (-(xs.getD k 0*ys.getD j 0))
  have b1:=k1 j
  have b2:=k2 j
  have b3:=k1 k
  have b4:=k2 k
  rw [Int.natAbs_neg] at a3 ⊢
  omega
 have H0:=zh h0
 have HK1:=zh lk4
 have HJ1:=zh lj4
 clear hx hy hrx hry k1 k2 h0 lk4 lj4
 obtain ⟨f,EF⟩:∃ f,Hid (comb1 xs ys k d=f):=⟨_,zh rfl⟩
 have HF0:Hid (∀ j,quo (ys.getD k 0*xs.getD j 0+ -(xs.getD k 0*ys.getD j 0)) d=f j):=zh fun j=>by rw [← EF.out];rfl
 unfold comb
 rw [EF.out]
 go_enter Tryz.func133,Tryz.ntmps133
 go_wp2_with (at_make;refine wpList_make_full _ rfl _ _ 114 rfl w.heap.size 112 i0 (.agg #[.slice none 0 0,.bool false]) 2 Tryz.underlying114 hi hz0 hz1 _ _ _ _ xs.length rfl rfl zo zo (by rw [hz2];omega) (by unfold maxLen;omega) zi ?_)
 intro w1 hown hgrow
 obtain ⟨w0,Ew0⟩:∃ y:World,Hid (w.alloc (.cells #[.slice paHD lHD caHD,.bool (decide (d<0))] 112)=y):=⟨_,zh rfl⟩
 have hbw0:Below w.heap.size w w0:=by rw [← Ew0.out];exact belA
 have BD:Box w0 w.heap.size #[.slice paHD lHD caHD,.bool (decide (d<0))] 112:=by rw [← Ew0.out];exact boxA
 rw [Ew0.out] at hgrow
 have hbg:Below w0.heap.size w0 w1:=(Below.refl _ _).grown hgrow (Nat.le_refl _) (fun k hk=>by cases hk)
 have HF:Hid (Fill w1 (w.heap.size+1) 112 xs.length 0 (IntC f)):=zh (Fill.start hown)
 replace BD:=BD.later hbg
 have hb1:Below w.heap.size w w1:=Bt hbw0 hbg
 clear hown hgrow hbg hbw0
 go_wp2_with fail
 go_loopw [18] (fun iv wr=>∃ j:Nat,iv= .int .i64 (j:Int)∧j≤xs.length∧Hid (Fill wr (w.heap.size+1) 112 xs.length j (IntC f))∧Hid (Box wr w.heap.size #[.slice paHD lHD caHD,.bool (decide (d<0))] 112)∧Below w.heap.size w wr) (fun iv _=>xs.length - (intOf iv).toNat)
 case atStart=>exact ⟨0,rfl,by omega,HF,zh BD,hb1⟩
 case round =>
  clear BD HF hb1
  obtain ⟨j,rfl,hj,HF,HBD,hb⟩:=hrel
  rcases Nat.lt_or_ge j xs.length with hlt|hge
  ·obtain ⟨b1,o1,p1,n1,c1,e1,m1,m2,m3,m4⟩:=HRX.out j hlt
   cases e1
   obtain ⟨b2,o2,p2,n2,c2,e2,r1,r2,r3,r4⟩:=HRY.out j hlt
   cases e2
   have cx1:=(hb.cell (p:=⟨bk,ofk+k*2,none⟩) lk1).trans lk2
   have cx2:=(hb.cell (p:=⟨bk,ofk+k*2+1,none⟩) lk1).trans lk3
   have cx3:=(hb.cell (p:=⟨bk,ofk+j*2,none⟩) lk1).trans m2
   have cx4:=(hb.cell (p:=⟨bk,ofk+j*2+1,none⟩) lk1).trans m3
   have cy1:=(hb.cell (p:=⟨bj,ofj+k*2,none⟩) lj1).trans lj2
   have cy2:=(hb.cell (p:=⟨bj,ofj+k*2+1,none⟩) lj1).trans lj3
   have cy3:=(hb.cell (p:=⟨bj,ofj+j*2,none⟩) lj1).trans r2
   have cy4:=(hb.cell (p:=⟨bj,ofj+j*2+1,none⟩) lj1).trans r3
   have lwr1:bk<wr.heap.size:=Nat.lt_of_lt_of_le lk1 hb.size
   have lwr2:bj<wr.heap.size:=Nat.lt_of_lt_of_le lj1 hb.size
   have HM1:=zh (HK1.out.later hb)
   have HM2:=zh (HJ1.out.later hb)
   have HM3:=zh (m4.later hb)
   have HM4:=zh (r4.later hb)
   have HMD:=zh (HD.out.later hb)
   have S1:=zh (HX.out k)
   have S2:=zh (HY.out k)
   have S3:=zh (HX.out j)
   have S4:=zh (HY.out j)
   have SZ:=zh (HZ.out j)
   have HFJ:=zh (HF0.out j)
   have BD:=HBD.out
   have cBD:=BD.cell
   have fBD:=BD.free
   have lBD:=BD.lt
   have lG:=HF.out.lt
   clear m1 m2 m3 m4 r1 r2 r3 r4 HBD
   generalize xs.getD k 0=xk at *
   generalize ys.getD k 0=yk at *
   generalize xs.getD j 0=xj at *
   generalize ys.getD j 0=yj at *
   generalize hfj:f j=fj at *
   have HFJ2:=zh hfj
   clear hfj
   obtain ⟨p,Ep⟩:∃ y:Int,Hid (yk*xj=y):=⟨_,zh rfl⟩
   obtain ⟨q,Eq⟩:∃ y:Int,Hid (xk*yj=y):=⟨_,zh rfl⟩
   rw [Ep.out,Eq.out] at SZ HFJ
   obtain ⟨mq,Em⟩:∃ y:Int,Hid (-q=y):=⟨_,zh rfl⟩
   rw [Em.out] at SZ HFJ
   obtain ⟨z,Ez⟩:∃ y:Int,Hid (p+mq=y):=⟨_,zh rfl⟩
   rw [Ez.out] at SZ HFJ
   go_wp2_with fail
   refine wp_region_walk [(.pure,0),(.pure,1),(.pure,2),(.read,3),(.pure,4),(.pure,5),(.pure,6),(.read,7),(.pure,9),(.pure,10),(.pure,11),(.read,12),(.pure,13),(.pure,14),(.pure,15),(.read,16),(.ext,8),(.ext,17),(.alloc #[.slice none 0 0,.bool false] 112,18),(.alloc #[.slice none 0 0,.bool false] 112,19),(.fin,20),(.fin,21)] zk zk zR zP ?_
   repeat (first|(refine walk_pure0 rfl rfl fun J h=>?_;go_simp;refine h _ ?_;clear h J)|(refine walk_load rfl rfl rfl rfl fun J h=>?_;go_simp;refine h _ ?_;clear h J;try go_simp))
   refine walk_ext rfl rfl (fun w11 hb11 J hJ=>?_);go_simp
   replace HM1:=zh (Mag.carry HM1.out magA hb11)
   replace HM2:=zh (Mag.carry HM2.out magA hb11)
   replace HM3:=zh (Mag.carry HM3.out magA hb11)
   replace HM4:=zh (Mag.carry HM4.out magA hb11)
   replace HMD:=zh (Mag.carry HMD.out magA hb11)
   replace BD:=Box.later (Box.drew BD) hb11;replace cBD:=BD.cell;replace fBD:=BD.free;replace lBD:=BD.lt
   refine ((product_ok _ _ yk xj _ (IntV.of_neg magA) (IntV.of_neg magA) S2.out S3.out).mono (by rw [Ep.out];exact fun _ _ h=>h)).mono ?_
   rintro e v11 ⟨v,rfl,hc11,hv⟩
   obtain ⟨paHP,lHP,caHP,rfl,HP⟩:=hv;replace HP:=zh HP
   replace HM1:=zh (Mag.later HM1.out hc11)
   replace HM2:=zh (Mag.later HM2.out hc11)
   replace HM3:=zh (Mag.later HM3.out hc11)
   replace HM4:=zh (Mag.later HM4.out hc11)
   replace HMD:=zh (Mag.later HMD.out hc11)
   replace BD:=Box.later (BD) hc11;replace cBD:=BD.cell;replace fBD:=BD.free;replace lBD:=BD.lt
   refine hJ _ _ hc11 ?_
   clear hJ J
   refine walk_ext rfl rfl (fun w12 hb12 J hJ=>?_);go_simp
   replace HP:=zh (Mag.carry HP.out magA hb12)
   replace HMD:=zh (Mag.carry HMD.out magA hb12)
   replace BD:=Box.later (BD) hb12;replace cBD:=BD.cell;replace fBD:=BD.free;replace lBD:=BD.lt
   refine ((product_ok _ _ xk yj _ (IntV.of_neg magA) (IntV.of_neg magA) S1.out S4.out).mono (by rw [Eq.out];exact fun _ _ h=>h)).mono ?_
   rintro e v12 ⟨v,rfl,hc12,hv⟩
   obtain ⟨paHQ,lHQ,caHQ,rfl,HQ⟩:=hv;replace HQ:=zh HQ
   replace HP:=zh (Mag.later HP.out hc12)
   replace HMD:=zh (Mag.later HMD.out hc12)
   replace BD:=Box.later (BD) hc12;replace cBD:=BD.cell;replace fBD:=BD.free;replace lBD:=BD.lt
   refine hJ _ _ hc12 ?_
   clear hJ J
   refine walk_alloc rfl (fun b13 w13 hw13 hNb13 hltb13 hAb13 hxb13=>?_);go_simp;replace hxb13:Box _ _ _ _:=hxb13;have hWb13:w.heap.size≤b13:=(by first|omega|exact Nat.le_trans (Below.size (B:=w.heap.size) belA) hNb13)
   replace BD:=Box.later (BD) hw13;replace cBD:=BD.cell;replace fBD:=BD.free;replace lBD:=BD.lt
   refine walk_alloc rfl (fun b14 w14 hw14 hNb14 hltb14 hAb14 hxb14=>?_);go_simp;replace hxb14:Box _ _ _ _:=hxb14;have hWb14:w.heap.size≤b14:=(by first|omega|exact Nat.le_trans (Below.size (B:=w.heap.size) belA) hNb14)
   replace BD:=Box.later (BD) hw14;replace cBD:=BD.cell;replace fBD:=BD.free;replace lBD:=BD.lt;replace hxb13:=Box.later (hxb13) hw14;replace chxb13:=hxb13.cell;replace fhxb13:=hxb13.free;replace lhxb13:=hxb13.lt
   refine walk_fin [_,_] rfl (fun w15 hb15=>?_)
   replace BD:=Box.later (BD) hb15;replace cBD:=BD.cell;replace fBD:=BD.free;replace lBD:=BD.lt;replace hxb13:=Box.later (hxb13) hb15;replace chxb13:=hxb13.cell;replace fhxb13:=hxb13.free;replace lhxb13:=hxb13.lt;replace hxb14:=Box.later (hxb14) hb15;replace chxb14:=hxb14.cell;replace fhxb14:=hxb14.free;replace lhxb14:=hxb14.lt
   have n1:b13≠b14:=fun e=>hAb14 (by simp [e])
   have n2:b14≠b13:=fun e=>n1 e.symm
   replace HP:=zh (Mag.carry HP.out magA hb15)
   replace HQ:=zh (Mag.carry HQ.out magA hb15)
   replace HMD:=zh (Mag.carry HMD.out magA hb15)
   have hbw:Below wr.heap.size wr w15:=belA
   have n3:w.heap.size≠b13:=by omega
   have n4:w.heap.size≠b14:=by omega
   go_wp2_with fail
   have KP:=zh SZ.out.1
   have KM:=zh SZ.out.2.1
   have KZ:=zh SZ.out.2.2
   refine wp_region_walk [(.pure,0),(.pure,1),(.read,2),(.read,3),(.read,6),(.ext,4),(.ext,5),(.ext,7),(.pure,8),(.fin,9)] zk zk zR zP ?_
   repeat (first|(refine walk_pure0 rfl rfl fun J h=>?_;go_simp;refine h _ ?_;clear h J)|(refine walk_load rfl rfl rfl rfl fun J h=>?_;go_simp;refine h _ ?_;clear h J;try go_simp))
   refine walk_ext rfl rfl (fun w16 hb16 J hJ=>?_);go_simp
   replace HP:=zh (Mag.carry HP.out magA hb16)
   replace HQ:=zh (Mag.carry HQ.out magA hb16)
   replace HMD:=zh (Mag.carry HMD.out magA hb16)
   replace hxb13:Box _ (b13) _ _:=Box.later boxA hb16;(try simp only [List.setIfInBounds_toArray,List.set_cons_zero,List.set_cons_succ] at hxb13);replace chxb13:=hxb13.cell;replace fhxb13:=hxb13.free;replace lhxb13:=hxb13.lt
   replace hxb14:Box _ (b14) _ _:=Box.later boxA hb16;(try simp only [List.setIfInBounds_toArray,List.set_cons_zero,List.set_cons_succ] at hxb14);replace chxb14:=hxb14.cell;replace fhxb14:=hxb14.free;replace lhxb14:=hxb14.lt
   replace BD:Box _ (w.heap.size) _ _:=Box.later boxA hb16;(try simp only [List.setIfInBounds_toArray,List.set_cons_zero,List.set_cons_succ] at BD);replace cBD:=BD.cell;replace fBD:=BD.free;replace lBD:=BD.lt
   refine ((opposite_ok _ q _ (IntV.of_neg magA)).mono (by rw [Em.out];exact fun _ _ h=>h)).mono ?_
   rintro e v16 ⟨v,rfl,hc16,hv⟩
   obtain ⟨paHN,lHN,caHN,rfl,HN⟩:=hv;replace HN:=zh HN
   replace HP:=zh (Mag.later HP.out hc16)
   replace HQ:=zh (Mag.later HQ.out hc16)
   replace HMD:=zh (Mag.later HMD.out hc16)
   replace hxb13:=Box.later (hxb13) hc16;replace chxb13:=hxb13.cell;replace fhxb13:=hxb13.free;replace lhxb13:=hxb13.lt
   replace hxb14:=Box.later (hxb14) hc16;replace chxb14:=hxb14.cell;replace fhxb14:=hxb14.free;replace lhxb14:=hxb14.lt
   replace BD:=Box.later (BD) hc16;replace cBD:=BD.cell;replace fBD:=BD.free;replace lBD:=BD.lt
   refine hJ _ _ hc16 ?_
   clear hJ J
   refine walk_ext rfl rfl (fun w17 hb17 J hJ=>?_);go_simp
   replace HMD:=zh (Mag.carry HMD.out magA hb17)
   replace BD:=Box.later (BD) hb17;replace cBD:=BD.cell;replace fBD:=BD.free;replace lBD:=BD.lt
   refine ((sum_ok _ _ p mq _ (IntV.of_neg magA) (IntV.of_neg magA) KP.out KM.out).mono (by rw [Ez.out];exact fun _ _ h=>h)).mono ?_
   rintro e v17 ⟨v,rfl,hc17,hv⟩
   obtain ⟨paHS,lHS,caHS,rfl,HS⟩:=hv;replace HS:=zh HS
   replace HMD:=zh (Mag.later HMD.out hc17)
   replace BD:=Box.later (BD) hc17;replace cBD:=BD.cell;replace fBD:=BD.free;replace lBD:=BD.lt
   refine hJ _ _ hc17 ?_
   clear hJ J
   refine walk_ext rfl rfl (fun w18 hb18 J hJ=>?_);go_simp
   replace HMD:=zh (Mag.carry HMD.out magA hb18)
   replace BD:=Box.later (BD) hb18;replace cBD:=BD.cell;replace fBD:=BD.free;replace lBD:=BD.lt
   refine ((quot_any _ _ z d _ (IntV.of_neg magA) (IntV.of_neg magA) H0.out KZ.out).mono (by rw [HFJ.out];exact fun _ _ h=>h)).mono ?_
   rintro e v18 ⟨v,rfl,hc18,hv⟩
   obtain ⟨paHV,lHV,caHV,rfl,HV⟩:=hv;replace HV:=zh HV
   replace HMD:=zh (Mag.later HMD.out hc18)
   replace BD:=Box.later (BD) hc18;replace cBD:=BD.cell;replace fBD:=BD.free;replace lBD:=BD.lt
   refine hJ _ _ hc18 ?_
   clear hJ J
   repeat (first|(refine walk_pure0 rfl rfl fun J h=>?_;go_simp;refine h _ ?_;clear h J)|(refine walk_load rfl rfl rfl rfl fun J h=>?_;go_simp;refine h _ ?_;clear h J;try go_simp))
   refine walk_fin [_] rfl (fun w19 hb19=>?_)
   replace BD:=Box.later (BD) hb19;replace cBD:=BD.cell;replace fBD:=BD.free;replace lBD:=BD.lt;replace HV:=zh (Mag.later HV.out hb19)
   have hb19':Below wr.heap.size wr w19:=by
    have hs:=hbw.size
    exact belA
   replace HF:Hid (Fill w19 (w.heap.size+1) 112 xs.length j (IntC f)):=zh (HF.out.later hb19' (IntC.later hb19'))
   obtain ⟨⟨y1,cy1⟩,⟨y2,cy2⟩,fy⟩:=HF.out.cells hlt
   have isG:=HF.out.isT
   have hb19w:Below w.heap.size w w19:=Bt hb hb19'
   have hne:w.heap.size≠w.heap.size+1:=by omega
   go_wp2_with fail
   go_roundw
   case rel =>
    refine ⟨j+1,by go_num,by omega,zh (HF.out.step hlt (fun i x y h=>IntC.setT isG.setCell zd _ _ _ (IntC.setT isG zd _ _ _ h)) (by unfold IntC;rw [HFJ2.out];exact ⟨_,_,_,rfl,rfl,(HV.out.setT isG zd).setT isG.setCell zd⟩)),zh ((BD.setOther _ hne).setOther _ hne),(hb19w.setCell zi _).setCell zi _⟩
   case measure=>exact zM
  ·obtain rfl:j=xs.length:=by omega
   have hfin:IntsV wr (.slice (some ⟨w.heap.size+1,0,none⟩) xs.length xs.length) ((List.range xs.length).map f):=by
    have hl2:((List.range xs.length).map f).length=xs.length:=by simp
    have hF:=HF.out
    have:IntsV wr (.slice (some ⟨w.heap.size+1,0,none⟩) ((List.range xs.length).map f).length ((List.range xs.length).map f).length) ((List.range xs.length).map f):=by
     refine IntsV.of_fill ?_ (by rw [hl2];omega)
     rw [hl2]
     obtain ⟨arr,g1,g2,g3⟩:=hF
     refine ⟨arr,g1,g2,fun i hi=>?_⟩
     obtain ⟨x,y,k1,k2,pa,l,ca,k3,k4,k5⟩:=g3 i hi
     have e:((List.range xs.length).map f).getD i 0=f i:=by simp [hi]
     exact ⟨x,y,k1,k2,pa,l,ca,k3,by simp only [e];exact k4,by simp only [e];exact k5⟩
    rw [hl2] at this
    exact this
   have HFIN:=zh hfin
   clear hfin
   go_wp2_with fail
   go_ret
   exact ⟨_,_,_,rfl,by omega,hb,HFIN.out⟩
end Go.Proofs.matrix
