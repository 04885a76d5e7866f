/- Lemmas for the proof. No condition. -/
import Derived.Test.YtddblpggomphpaaGreatDoorXB01
import Derived.Test.YtddblpggomphpaaGreatDoorXB02
import Derived.Test.YtddblpggomphpaaGreatDoorXB06
import Derived.Laws.CopyOwn
import Derived.Deep.CutRange
import Derived.Deep.Cut
set_option linter.unusedVariables false
set_option linter.unusedSimpArgs false
set_option maxRecDepth 100000
set_option maxHeartbeats 16000000
namespace Go.Proofs.matrix
open Go Go.RowKit Go.SW Go.Num Go.Mem Go.Proofs Go.Dec Go.dB
theorem oh (P:Program) (w:World) (dT sT ty elem:TypeId) (g o dLen dCap size:Nat) (a:Addr) (sLen sCap:Nat) (cur:Array Value) (t:TypeId) (cs:List Value)
  (hu:P.underlying dT=some (.slice elem)) (hs:(P.info? elem).map (·.size)=some size)
  (hg:w.heap[g]? =some (.cells cur t (0,0))) (hn:cs.length=Nat.min sLen dLen*size)
  (hsrc:∀ j v,cs[j]? =some v→w.cell? (a.add j)=some v) (hfit:o+cs.length≤cur.size) (h1:∀ v∈cs,v.oneCell'=true) :
  (Builtin.copy_ #[dT,sT] ty #[.slice (some ⟨g,o,none⟩) dLen dCap,.slice (some a) sLen sCap]).run P w =
   .ok (goInt (Nat.min sLen dLen)) (w.setRow g (cur.toList.take o++cs++cur.toList.drop (o+cs.length)).toArray):=by
 have hl:=run_loadCells_list (P:=P) w a cs hsrc
 have hst:=run_storeCells_at P g o t cs 0 cur w hg (by simpa using hfit) h1
 cases hq:P.info? elem with
 | none=>simp [hq] at hs
 | some i =>
  have hi:i.size=size:=by simpa [hq] using hs
  simp [Builtin.copy_,run_underlying hu,Builtin.lenOf,Builtin.firstCells,sizeOf,typeInfo,hq,hi,← hn,hl,hst]
theorem bZ.raw {w:World} {a:Option Addr} {n c:Nat} {l:List Int} (h:bZ w (.slice a n c) l) (h0:0<n) :
  n=l.length∧∃ b off,∃ cs:List Value,a=some ⟨b,off,none⟩∧b<w.heap.size∧cs.length=n*2∧(∀ j v,cs[j]? =some v→w.cell? ⟨b,off+j,none⟩=some v)∧(∀ v∈cs,v.oneCell'=true) ∧
   ∀ i,i<n→∃ x y,cs[i*2]? =some x∧cs[i*2+1]? =some y∧iF (fun i=>l.getD i 0) w i x y:=by
 obtain ⟨a',c',e,h2,h3,h4,h5⟩:=h
 simp only [Value.slice.injEq] at e
 obtain ⟨rfl,rfl,rfl⟩:=e
 refine ⟨rfl,?_⟩
 cases a with
 | none=>have:=h4 rfl;omega
 | some ad =>
  obtain ⟨h6,arr,h7,h8⟩:=h5 ad rfl
  obtain ⟨b,off,sp⟩:=ad
  simp only at h6
  subst h6
  have key:∀ k,k<l.length*2→∃ v,arr[off+k]? =some v∧v.oneCell'=true:=fun k hk=>by
   obtain ⟨x,y,k1,k2,pa,m,ca,k3,k4, -⟩:=h8 (k / 2) zo
   subst k3 k4
   rcases Nat.mod_two_eq_zero_or_one k with e|e
   ·have e2:off+k=off+k / 2*2:=by omega
    rw [e2]
    exact ⟨_,k1,rfl⟩
   ·have e2:off+k=off+k / 2*2+1:=by omega
    rw [e2]
    exact ⟨_,k2,rfl⟩
  have hget:∀ k (h:k<l.length*2),((List.range (l.length*2)).map fun k=>(arr[off+k]?).getD undef)[k]? =arr[off+k]? :=fun k hk=>by
   obtain ⟨v,hv, -⟩:=key k hk
   simp only [List.getElem?_map,List.getElem?_range hk,Option.map_some,hv,Option.getD_some]
  refine ⟨b,off,(List.range (l.length*2)).map fun k=>(arr[off+k]?).getD undef,rfl,h7.lt,by simp,fun j v hv=>?_,fun v hv=>?_,fun i hi=>?_⟩
  ·have hj:j<l.length*2:=by
    have:=(List.getElem?_eq_some_iff.1 hv).1
    simpa using this
   rw [hget j hj] at hv
   exact (h7.cell _).trans hv
  ·obtain ⟨k,hk,rfl⟩:=List.mem_map.1 hv
   obtain ⟨u,hu,h1⟩:=key k (List.mem_range.1 hk)
   simp only [hu,Option.getD_some]
   exact h1
  ·obtain ⟨x,y,k1,k2,k3⟩:=h8 i hi
   exact ⟨x,y,by rw [hget _ zo];exact k1,by rw [hget _ zo,← k2,Nat.add_assoc],k3⟩
theorem qC (n:Nat) (hn:n≤1000) (z:Int) (hz:z=(n:Int)):∃ cs:Array Value,cs.size=n*2∧(∀ i,i<n→cs[i*2]? =some (.slice none 0 0)∧cs[i*2+1]? =some (.bool false))∧∀ W:World,(Instr.makeSlice 103 (.int .i64 z) (.int .i64 z)).run Tryz.prog W= .ok (.slice (some ⟨W.heap.size,0,none⟩) n n) (W.alloc (.cells cs 99)):=by
 subst hz
 obtain ⟨i0,hi,hz0,hz1,hz2⟩:=info_parts o8
 refine ⟨madeCells (Value.agg #[.slice none 0 0,.bool false]).cells (n*2),size_madeCells _ _,fun i hi=>?_,fun W=>?_⟩
 ·have e:(Value.agg #[.slice none 0 0,.bool false]).cells=#[.slice none 0 0,.bool false]:=rfl
  rw [e]
  unfold madeCells
  constructor
  ·rw [Array.getElem?_map,Array.getElem?_range,if_pos zo]
   simp
  ·rw [Array.getElem?_map,Array.getElem?_range,if_pos zo]
   simp [Nat.add_mod]
 ·have:=run_makeSlice (P:=Tryz.prog) W 103 99 i0 (.agg #[.slice none 0 0,.bool false]) Tryz.underlying103 hi hz0 .i64 .i64 (n:Int) (n:Int) zo (Int.le_refl _) (by rw [hz1];simp;omega) (by rw [hz2];omega) zo
  rw [hz1] at this
  simpa using this
theorem Pp (n:Nat) (hn:n≤1000):∃ cs:Array Value,cs.size=n∧∀ W:World,(Instr.makeSlice 90 (.int .i64 (n:Int)) (.int .i64 (n:Int))).run Tryz.prog W= .ok (.slice (some ⟨W.heap.size,0,none⟩) n n) (W.alloc (.cells cs 103)):=by
 obtain ⟨i0,hi,hz0,hz1,hz2⟩:=info_parts Nn
 refine ⟨madeCells (Value.slice none 0 0).cells n,size_madeCells _ _,fun W=>?_⟩
 have:=run_makeSlice (P:=Tryz.prog) W 90 103 i0 (.slice none 0 0) Tryz.underlying90 hi hz0 .i64 .i64 (n:Int) (n:Int) zo (Int.le_refl _) (by rw [hz1];simp;omega) (by rw [hz2];omega) zo
 rw [hz1] at this
 simpa using this
theorem Fill.aC1 {w w':World} {G n j:Nat} {f:Nat→Int} {pa:Option Addr} {l ca:Nat} {z:Int} {b:Bool} (h:Fill w G 99 n n (iF f)) (hj:j<n) (hb:b=decide (z<0))
  (hB:Below w.heap.size ((w.setCell ⟨G,j*2,none⟩ (.slice pa l ca)).setCell ⟨G,j*2+1,none⟩ (.bool b)) w') (hm:aM w' (.slice pa l ca) z.natAbs) :
  Fill w' G 99 n n (iF fun c=>if c=j then z else f c):=by
 subst hb
 have Nl:=h.uS
 have hB2:Below ((w.setCell ⟨G,j*2,none⟩ (.slice pa l ca)).setCell ⟨G,j*2+1,none⟩ (.bool (decide (z<0)))).heap.size ((w.setCell ⟨G,j*2,none⟩ (.slice pa l ca)).setCell ⟨G,j*2+1,none⟩ (.bool (decide (z<0)))) w':=by simpa using hB
 obtain ⟨arr,h1,h2,h3⟩:=h
 refine ⟨(arr.setIfInBounds (j*2) (.slice pa l ca)).setIfInBounds (j*2+1) (.bool (decide (z<0))),((h1.set _ _).set _ _).later hB2,by simp [h2],fun i hi=>?_⟩
 by_cases e:i=j
 ·subst e
  refine ⟨.slice pa l ca,.bool (decide (z<0)),?_,?_,?_⟩
  ·rw [Array.getElem?_setIfInBounds,if_neg zo,Array.getElem?_setIfInBounds,if_pos rfl,if_pos zo]
  ·rw [Array.getElem?_setIfInBounds,if_pos rfl,if_pos (by simp;omega)]
  ·have e:(fun c=>if c=i then z else f c) i=z:=by simp
   unfold iF
   rw [e]
   exact ⟨_,_,_,rfl,rfl,hm⟩
 ·obtain ⟨x',y',k1,k2,k3⟩:=h3 i hi
  refine ⟨x',y',?_,?_,?_⟩
  ·rw [Array.getElem?_setIfInBounds,if_neg zo,Array.getElem?_setIfInBounds,if_neg zo,k1]
  ·rw [Array.getElem?_setIfInBounds,if_neg zo,Array.getElem?_setIfInBounds,if_neg zo,k2]
  ·have k4:=iF.later hB2 _ _ _ (iF.lJ (o:=j*2+1) (u:=.bool (decide (z<0))) (Nl.setCell (a:=⟨G,j*2,none⟩) (u:=.slice pa l ca)) zd _ _ _ (iF.lJ Nl zd _ _ _ k3))
   unfold iF at *
   simp only [if_neg e]
   exact k4
def xL (w:World) (M n k:Nat) (f:Nat→List Int):Prop :=
 ∃ arr,aB w M arr 103∧arr.size=n∧∀ i,i<k→∃ v,arr[i]? =some v∧bZ w v (f i)
theorem xL.lt {w:World} {M n k:Nat} {f:Nat→List Int} (h:xL w M n k f):M<w.heap.size:=by
 obtain ⟨arr,h1, -⟩:=h
 exact h1.lt
theorem xL.cell {w:World} {M n k:Nat} {f:Nat→List Int} (h:xL w M n k f) {j:Nat} (hj:j<n):(∃ x,w.cell? ⟨M,j,none⟩=some x)∧∀ o,w.frozen? ⟨M,o,none⟩=false:=by
 obtain ⟨arr,h1,h2, -⟩:=h
 exact ⟨⟨arr[j]'zo,by rw [h1.cell];exact Array.getElem?_eq_getElem _⟩,h1.free⟩
theorem bZ.near {w w':World} {M:Nat} {v:Value} {l:List Int} (h:bZ w v l) (k:gY w w' M) (hM:vX w M 103):bZ w' v l:=by
 obtain ⟨a,cap,h1,h2,h3,h4,h5⟩:=h
 obtain ⟨cs,hM⟩:=hM
 refine ⟨a,cap,h1,h2,h3,h4,fun ad had=>?_⟩
 obtain ⟨h6,arr,h7,h8⟩:=h5 ad had
 refine ⟨h6,arr,k.box h7 (h7.ne hM zd),fun i hi=>?_⟩
 obtain ⟨x,y,k1,k2,pa,n,ca,k3,k4,k5⟩:=h8 i hi
 refine ⟨x,y,k1,k2,pa,n,ca,k3,k4,?_⟩
 obtain ⟨a',cap',g1,g2,g3,g4,g5⟩:=k5
 refine ⟨a',cap',g1,g2,g3,g4,fun ad had=>?_⟩
 obtain ⟨g6,arr',g7,g8⟩:=g5 ad had
 have g7':aB w ad.block arr' 113:=g7
 exact ⟨g6,arr',k.box g7' (g7'.ne hM zd),g8⟩
theorem xL.step {w w':World} {M n k:Nat} {f:Nat→List Int} {v:Value} (h:xL w M n k f) (hk:k<n) (hn:gY w w' M)
  (hb:∀ arr,aB w M arr 103→aB w' M (arr.setIfInBounds k v) 103) (hv:bZ w' v (f k)):xL w' M n (k+1) f:=by
 obtain ⟨arr,h1,h2,h3⟩:=h
 refine ⟨arr.setIfInBounds k v,hb _ h1,by simp [h2],fun i hi=>?_⟩
 rcases Nat.lt_or_ge i k with h|h
 ·obtain ⟨u,k1,k2⟩:=h3 i h
  refine ⟨u,?_,bZ.near k2 hn h1.uS⟩
  rw [Array.getElem?_setIfInBounds,if_neg zo,k1]
 ·obtain rfl:i=k:=by omega
  refine ⟨v,?_,hv⟩
  rw [Array.getElem?_setIfInBounds,if_pos rfl,if_pos zo]
theorem setRow_size (w:World) (g:Nat) (cs:Array Value):(w.setRow g cs).heap.size=w.heap.size:=by simp [World.setRow]
theorem gY.setRow {a w:World} {B g:Nat} (h:gY a w B) (hg:a.heap.size≤g) (cs:Array Value):gY a (w.setRow g cs) B :=
 ⟨h.os,h.tape,h.output,by rw [setRow_size];exact h.size,fun i hi hne=>(setRow_other w g i cs zo).trans (h.block i hi hne)⟩
theorem Keep.setRow {w:World} {g:Nat} {T:TypeId} {arr cs:Array Value} (h:aB w g arr T):Keep [T] w (w.setRow g cs):=fun b xs T' hT hx=>by
 have hne:b≠g:=fun e=>by
  subst e
  have:=dB.aB.uniq hx h
  unfold aB at hx h
  rw [h] at hx
  injection hx with e
  injection e with _ e2
  exact hT (by simp [e2])
 unfold aB at *
 rw [setRow_other w g b cs hne]
 exact hx
theorem copied {w:World} {G n N:Nat} {l:List Int} {J3:Array Value} {cs:List Value} (hG:aB w G J3 99) (hs:J3.size=N*2) (hz:∀ i,i<N→J3[i*2]? =some (.slice none 0 0)∧J3[i*2+1]? =some (.bool false)) (hn:n≤N) (hl:cs.length=n*2)
  (hc:∀ i,i<n→∃ x y,cs[i*2]? =some x∧cs[i*2+1]? =some y∧iF (fun i=>l.getD i 0) w i x y) :
  Fill (w.setRow G (J3.toList.take 0++cs++J3.toList.drop (0+cs.length)).toArray) G 99 N N (iF fun i=>if i<n then l.getD i 0 else 0):=by
 have hk:Keep [99] w (w.setRow G (J3.toList.take 0++cs++J3.toList.drop (0+cs.length)).toArray):=Keep.setRow hG
 refine ⟨_,setRow_heap w G _ _ _ _ hG,?_,fun i hi=>?_⟩
 ·simp [hl,hs]
  omega
 ·simp only [List.take_zero,List.nil_append,Nat.zero_add,List.getElem?_toArray]
  by_cases h:i<n
  ·obtain ⟨x,y,k1,k2,k3⟩:=hc i h
   refine ⟨x,y,?_,?_,?_⟩
   ·rw [List.getElem?_append_left zo,k1]
   ·rw [List.getElem?_append_left zo,k2]
   ·have k4:=iF.kept hk zd _ _ _ k3
    unfold iF at *
    simp only [List.take_zero,List.nil_append,Nat.zero_add] at k4
    simp only [if_pos h]
    exact k4
  ·obtain ⟨k1,k2⟩:=hz i hi
   refine ⟨.slice none 0 0,.bool false,?_,?_,?_⟩
   ·rw [List.getElem?_append_right zo,List.getElem?_drop,hl,show n*2+(i*2 - n*2)=i*2 by omega,Array.getElem?_toList,k1]
   ·rw [List.getElem?_append_right zo,List.getElem?_drop,hl,show n*2+(i*2+1 - n*2)=i*2+1 by omega,Array.getElem?_toList,k2]
   ·unfold iF
    simp only [if_neg h]
    exact ⟨none,0,0,rfl,rfl,aM.zero _⟩
theorem I9 (v:Value) (rs:IM) (n:Nat) (w:World) (h:Ci w v rs) (hl:rs.length=n) (hr:∀ i,i<n→(rs.getD i []).length=n) (h1:1≤n) (h4:n≤4) :
  Calls Tryz.prog 58 #[v] w (fun e w'=>∃ B,e= .returned (.slice (some ⟨B,0,none⟩) n n)∧w.heap.size≤B∧Below w.heap.size w w'∧tQ w' B 0 n (fun i=>(ext rs).getD i [])):=by
 obtain ⟨rv,hR, -, -⟩:=id h
 obtain ⟨a,cap,rfl,hcap, -⟩:=hR
 obtain ⟨hn,hread⟩:=rJ h
 rw [hl] at hn
 rw [hn] at h hcap ⊢
 have ME:Hid (∀ k,k<n→∃ b off pa cc,a=some ⟨b,off,none⟩∧b<w.heap.size∧w.cell? ⟨b,off+k,none⟩=some (.slice pa n cc)∧bZ w (.slice pa n cc) (rs.getD k [])):=zh fun k hk=>by
  obtain ⟨b,off,pa,m,cc,k1,k2,k3,k4⟩:=hread k zo
  have e:rs.getD k []=rs[k]:=getD_lt zo
  obtain ⟨_,_,e3, -⟩:=k4.read
  simp only [Value.slice.injEq] at e3
  have e4:m=n:=by rw [e3.2.1,← e];exact hr k hk
  subst e4
  exact ⟨b,off,pa,cc,k1,k2,k3,e ▸ k4⟩
 obtain ⟨P9,Bv,hmk⟩:=Pp n zo
 obtain ⟨J3,av0,hcsz,aU3⟩:=qC (2*n) zo (2*(n:Int)) zo
 have HS1:=zh Bv
 have HS2:=zh av0
 have HS3:=zh hcsz
 have HL:=zh hl
 have HLR:=zh hr
 clear h hn hread Bv av0 hcsz hl hr hcap
 go_enter Tryz.func58,Tryz.ntmps58
 go_wp2_with fail
 have HM:Hid (xL (w.alloc (.cells P9 103)) w.heap.size n 0 (fun k=>(ext rs).getD k [])):=zh ⟨P9,aB.new _ _ _,HS1.out,fun i hi=>by omega⟩
 have hb0:Below w.heap.size w (w.alloc (.cells P9 103)):=aA
 clear hmk HS1
 go_loopw [11] (fun iv wr=>∃ i:Nat,iv= .int .i64 (i:Int)∧i≤n∧Hid (xL wr w.heap.size n i (fun k=>(ext rs).getD k []))∧Below w.heap.size w wr) (fun iv _=>n - (intOf iv).toNat)
 case atStart=>exact ⟨0,rfl,by omega,HM,hb0⟩
 case round =>
  clear HM hb0
  obtain ⟨i,rfl,hin,HM,hb⟩:=hrel
  have lM:=HM.out.lt
  rcases Nat.lt_or_ge i n with hlt|hge
  ·have hlt2:(i:Int)<(n:Int):=by omega
   obtain ⟨⟨y1,GY⟩,fy⟩:=HM.out.cell hlt
   obtain ⟨b,off,pa,cc,rfl,lb,cb,hiv⟩:=ME.out i hlt
   have cbo:=(hb.cell (p:=⟨b,off+i,none⟩) lb).trans cb
   have Zu:=Nat.lt_of_lt_of_le lb hb.size
   obtain ⟨wo,hwo⟩:∃ y,y=wr:=⟨_,rfl⟩
   subst hwo
   obtain ⟨qK,bM,hsz, -⟩:=id HM.out
   obtain ⟨W1,EW1⟩:∃ y,(wo.setCell ⟨w.heap.size,i,none⟩ (.slice (some ⟨wo.heap.size,0,none⟩) (2*n) (2*n))).alloc (.cells J3 99)=y:=⟨_,rfl⟩
   have hN1:gY wo W1 w.heap.size:=by rw [← EW1];exact ((gY.refl wo _).set _ _).below aA
   have hM1:aB W1 w.heap.size (qK.setIfInBounds i (.slice (some ⟨wo.heap.size,0,none⟩) (2*n) (2*n))) 103:=by rw [← EW1];exact (bM.set _ _).alloc _
   have hG1:aB W1 wo.heap.size J3 99:=by rw [← EW1];exact aB.pW zi
   have C9:bZ W1 (.slice pa n cc) (rs.getD i []):=bZ.near (hiv.later hb) hN1 bM.uS
   obtain ⟨-, b2,off2,cs,rfl,FV,hcl,hc1,hc2,hc3⟩:=bZ.raw C9 zo
   have hcp:∀ ty,(Builtin.copy_ #[103,103] ty #[.slice (some ⟨wo.heap.size,0,none⟩) (2*n) (2*n),.slice (some ⟨b2,off2,none⟩) n cc]).run Tryz.prog W1= .ok (goInt n) (W1.setRow wo.heap.size (J3.toList.take 0++cs++J3.toList.drop (0+cs.length)).toArray):=fun ty=>by
    obtain ⟨i0,hi,hz0,hz1,hz2⟩:=info_parts o8
    have:=oh Tryz.prog W1 103 103 ty 99 wo.heap.size 0 (2*n) (2*n) 2 ⟨b2,off2,none⟩ n cc J3 99 cs Tryz.underlying103 (by rw [hi];simp [hz1]) hG1 (by rw [hcl,show Nat.min n (2*n)=n from Nat.min_eq_left zo]) (fun j v hv=>by rw [Addr.add_lit];exact hc1 j v hv) (by rw [hcl,HS2.out];omega) hc2
    rw [show Nat.min n (2*n)=n from Nat.min_eq_left zo] at this
    exact this
   obtain ⟨W2,EW2⟩:∃ y,W1.setRow wo.heap.size (J3.toList.take 0++cs++J3.toList.drop (0+cs.length)).toArray=y:=⟨_,rfl⟩
   have hF2:Fill W2 wo.heap.size 99 (2*n) (2*n) (iF fun j=>if j<n then (rs.getD i []).getD j 0 else 0):=by rw [← EW2];exact copied hG1 HS2.out HS3.out zo hcl hc3
   have hN2:gY wo W2 w.heap.size:=by rw [← EW2];exact gY.setRow hN1 (Nat.le_refl _) _
   have hM2:aB W2 w.heap.size (qK.setIfInBounds i (.slice (some ⟨wo.heap.size,0,none⟩) (2*n) (2*n))) 103:=by rw [← EW2];exact Keep.setRow hG1 _ _ _ zd hM1
   rw [EW2] at hcp
   have Qs:=zh bM
   have HF2:=zh hF2
   have HN2:=zh hN2
   have MG:=zh hM2
   have cM2:=hM2.cell i
   rw [Array.getElem?_setIfInBounds,if_pos rfl,if_pos (show i<qK.size by omega)] at cM2
   have cM1:=hM1.cell i
   rw [Array.getElem?_setIfInBounds,if_pos rfl,if_pos (show i<qK.size by omega)] at cM1
   have lM2:=hM2.lt
   have lG2:=hF2.lt
   obtain ⟨⟨z1,cz1⟩,⟨z2,cz2⟩,fz⟩:=hF2.cells (j:=n+i) zo
   clear hF2 hN2 hM2 bM hG1 hM1 hN1 C9 hiv hc1 hc2 hc3 EW2
   go_wp2_with fail
   have hne:w.heap.size≠wo.heap.size:=by omega
   have hb2:Below W2.heap.size ((W2.setCell ⟨wo.heap.size,(n+i)*2,none⟩ (.slice (some ⟨W2.heap.size,0,none⟩) 1 1)).setCell ⟨wo.heap.size,(n+i)*2+1,none⟩ (.bool false)) (((W2.setCell ⟨wo.heap.size,(n+i)*2,none⟩ (.slice (some ⟨W2.heap.size,0,none⟩) 1 1)).setCell ⟨wo.heap.size,(n+i)*2+1,none⟩ (.bool false)).alloc (.cells #[.int .u32 1] 113)):=(Below.refl _ _).alloc zi _
   have hm1:aM (((W2.setCell ⟨wo.heap.size,(n+i)*2,none⟩ (.slice (some ⟨W2.heap.size,0,none⟩) 1 1)).setCell ⟨wo.heap.size,(n+i)*2+1,none⟩ (.bool false)).alloc (.cells #[.int .u32 1] 113)) (.slice (some ⟨W2.heap.size,0,none⟩) 1 1) ((1:Int).natAbs):=by
    have:=aM.lit (w:=(W2.setCell ⟨wo.heap.size,(n+i)*2,none⟩ (.slice (some ⟨W2.heap.size,0,none⟩) 1 1)).setCell ⟨wo.heap.size,(n+i)*2+1,none⟩ (.bool false)) (d:=1) zo zo
    simpa using this
   have hF3:=Fill.aC1 HF2.out zo (z:=1) (b:=false) rfl hb2 hm1
   have hN3:=(((HN2.out.gT (Nat.le_refl _) ((n+i)*2) (.slice (some ⟨W2.heap.size,0,none⟩) 1 1)).gT (Nat.le_refl _) ((n+i)*2+1) (.bool false)).below (w':=((W2.setCell ⟨wo.heap.size,(n+i)*2,none⟩ (.slice (some ⟨W2.heap.size,0,none⟩) 1 1)).setCell ⟨wo.heap.size,(n+i)*2+1,none⟩ (.bool false)).alloc (.cells #[.int .u32 1] 113)) aA)
   have hM3:=((MG.out.setOther (a:=⟨wo.heap.size,(n+i)*2,none⟩) (.slice (some ⟨W2.heap.size,0,none⟩) 1 1) hne).setOther (a:=⟨wo.heap.size,(n+i)*2+1,none⟩) (.bool false) hne).alloc (.cells #[.int .u32 1] 113 (0,0))
   have hL:=HL.out
   have hrow:(ext rs).getD i []=(List.range (2*n)).map fun j=>if j<n then rs.at i j else if j=n+i then 1 else 0:=by
    unfold ext
    rw [hL,getD_lt (show i<_ by simp;omega)]
    simp
   have hlen:((ext rs).getD i []).length=2*n:=by rw [hrow];simp
   have aE7:bZ (((W2.setCell ⟨wo.heap.size,(n+i)*2,none⟩ (.slice (some ⟨W2.heap.size,0,none⟩) 1 1)).setCell ⟨wo.heap.size,(n+i)*2+1,none⟩ (.bool false)).alloc (.cells #[.int .u32 1] 113)) (.slice (some ⟨wo.heap.size,0,none⟩) (2*n) (2*n)) ((ext rs).getD i []):=by
    have:=bZ.uy (l:=(ext rs).getD i []) (g:=wo.heap.size) (w:=((W2.setCell ⟨wo.heap.size,(n+i)*2,none⟩ (.slice (some ⟨W2.heap.size,0,none⟩) 1 1)).setCell ⟨wo.heap.size,(n+i)*2+1,none⟩ (.bool false)).alloc (.cells #[.int .u32 1] 113)) (by
     rw [hlen]
     obtain ⟨arr,g1,g2,g3⟩:=hF3
     refine ⟨arr,g1,g2,fun j hj=>?_⟩
     obtain ⟨x,y,y1,y2,pa,l,ca,y3,y4,y5⟩:=g3 j hj
     have e:((ext rs).getD i []).getD j 0=if j=n+i then 1 else if j<n then (rs.getD i []).getD j 0 else 0:=by
      rw [hrow,getD_lt (show j<_ by simp;omega)]
      simp only [List.getElem_map,List.getElem_range]
      unfold IM.at
      by_cases e1:j=n+i
      ·rw [if_neg zo,if_pos e1,if_pos e1]
      ·rw [if_neg e1,if_neg e1]
     exact ⟨x,y,y1,y2,pa,l,ca,y3,by simp only [e];exact y4,by simp only [e];exact y5⟩) (by rw [hlen];omega)
    rw [hlen] at this
    exact this
   refine ⟨⟨i+1,by go_num,by omega,zh (HM.out.step hlt hN3 (fun arr hA=>?_) aE7),hN3.toBelow hb (Nat.le_refl _)⟩,by simp only [intOf];omega⟩
   rw [dB.aB.uniq hA Qs.out]
   exact hM3
  ·have hiN:n=i:=by omega
   subst hiN
   go_wp2_with fail
   go_ret
   obtain ⟨arr,k1,k2,k3⟩:=HM.out
   exact ⟨_,rfl,Nat.le_refl _,hb,arr,k1,fun k hk=>by rw [Nat.zero_add];exact k3 k hk⟩
theorem Rt (v u:Value) (z y:Int) (w:World) (h:aZ w v z) (h2:aZ w u y) (hy:y≠0) (kz:sz 1000000000 z.natAbs≤549755813888) :
  Calls Tryz.prog 172 #[v,u] w (fun e w'=>∃ v,e= .returned v∧Below w.heap.size w w'∧aZ w' v (quo z y)):=by
 obtain ⟨Iq,lH,Jy,rfl,H⟩:=h;replace H:=zh H
 obtain ⟨aC9,lH2,aI4,rfl,H2⟩:=h2;replace H2:=zh H2
 have KZ:=zh kz
 have HY:=zh hy
 clear kz hy
 go_enter Tryz.func172,Tryz.ntmps172
 go_wp2_with fail
 refine (dD _ _ z.natAbs y.natAbs _ aH aH (Int.natAbs_pos.mpr HY.out) KZ.out).mono ?_
 rintro e v1 ⟨v,vr,rfl,hc1,hv,jf⟩
 obtain ⟨aC6,lHQ,aI1,rfl⟩:=hv.slice;have HQ:=zh hv;clear hv;obtain ⟨aK2,aT6,aM0,rfl⟩:=jf.slice;have HQr:=zh jf;clear jf
 have BR:=aB.later (aB.at2 _ _ _ _ _) hc1;have bJ:=BR.cell;have bI:=BR.free;have gu:=BR.lt
 have B1:=aB.later (aB.alloc (aB.mg _ _ _ _) _) hc1;have cB1:=B1.cell;have mE:=B1.free;have lB1:=B1.lt
 have B0:=aB.later (aB.alloc (aB.alloc (aB.new _ _ _) _) _) hc1;have cB0:=B0.cell;have j4:=B0.free;have lB0:=B0.lt
 go_wp2_with fail
 refine (eH _ (z.natAbs / y.natAbs) _ _ aH).mono ?_
 rintro e v2 ⟨v,rfl,hc2,hv⟩
 obtain ⟨Vw,lHT,WV,rfl,HT⟩:=hv;replace HT:=zh HT
 replace BR:=aB.later (BR) hc2;replace bJ:=BR.cell;replace bI:=BR.free;replace gu:=BR.lt
 go_wp2_with fail
 refine bP rfl rfl aL Tryz.underlying99 rfl zk ?_
 exact ⟨_,rfl,aA,(aZ.aW aH).cast rfl⟩
theorem Jl (v u vd:Value) (xs ys:List Int) (k:Nat) (d:Int) (w:World) (hx:bZ w v xs) (hy:bZ w u ys) (hd:aZ w vd d) (hl:ys.length=xs.length) (hk:k<xs.length) (hn:xs.length≤1000) (h0:d≠0)
  (k1:∀ i,sz 1000000000 (xs.getD i 0).natAbs≤1000000000) (k2:∀ i,sz 1000000000 (ys.getD i 0).natAbs≤1000000000) :
  Calls Tryz.prog 120 #[v,u,.int .i64 (k:Int),vd] w (fun e w'=>∃ g m c,e= .returned (.slice (some ⟨g,0,none⟩) m c)∧w.heap.size≤g∧Below w.heap.size w w'∧bZ w' (.slice (some ⟨g,0,none⟩) m c) (comb xs ys k d)):=by
 obtain ⟨i0,hi,hz0,hz1,hz2⟩:=info_parts o8
 obtain ⟨ax,aW3,rfl,aV1,aV0,hrx⟩:=hx.read
 obtain ⟨ay,aW2,rfl,aF3,aU9,hry⟩:=hy.read
 rw [hl] at hry ⊢
 rw [hl] at aF3
 obtain ⟨Pj,lHD,Qf,rfl,HD⟩:=hd;replace HD:=zh HD
 obtain ⟨bk,ofk,pk,nk,ck,rfl,lk1,lk2,lk3,lk4⟩:=hrx k hk
 obtain ⟨bj,ofj,pj,nj,cj,rfl,lj1,lj2,lj3,lj4⟩:=hry k hk
 have HRX:=zh hrx
 have HRY:=zh hry
 have HX:=zh (fun i=>Nat.le_trans (k1 i) (show 1000000000≤549755813888 by omega))
 have HY:=zh (fun i=>Nat.le_trans (k2 i) (show 1000000000≤549755813888 by omega))
 have HZ:Hid (∀ j,sz 1000000000 (ys.getD k 0*xs.getD j 0).natAbs≤549755813888∧sz 1000000000 (-(xs.getD k 0*ys.getD j 0)).natAbs≤549755813888∧sz 1000000000 (ys.getD k 0*xs.getD j 0+ -(xs.getD k 0*ys.getD j 0)).natAbs≤549755813888):=zh fun j=>by
  have a1:=jr (ys.getD k 0) (xs.getD j 0)
  have a2:=jr (xs.getD k 0) (ys.getD j 0)
  have a3:=qx (ys.getD k 0*xs.getD j 0) (-(xs.getD k 0*ys.getD j 0))
  have b1:=k1 j
  have b2:=k2 j
  have b3:=k1 k
  have b4:=k2 k
  rw [Int.natAbs_neg] at a3 ⊢
  omega
 have H0:=zh h0
 have HK1:=zh lk4
 have HJ1:=zh lj4
 clear hx hy hrx hry k1 k2 h0 lk4 lj4
 obtain ⟨f,EF⟩:∃ f,Hid (Jm xs ys k d=f):=⟨_,zh rfl⟩
 have HF0:Hid (∀ j,quo (ys.getD k 0*xs.getD j 0+ -(xs.getD k 0*ys.getD j 0)) d=f j):=zh fun j=>by rw [← EF.out];rfl
 unfold comb
 rw [EF.out]
 go_enter Tryz.func120,Tryz.ntmps120
 go_wp2_with (at_make;refine wpList_make_full _ rfl _ _ 103 rfl w.heap.size 99 i0 (.agg #[.slice none 0 0,.bool false]) 2 Tryz.underlying103 hi hz0 hz1 _ _ _ _ xs.length rfl rfl zo zo (by rw [hz2];omega) (by unfold maxLen;omega) zi ?_)
 intro w1 hown hgrow
 obtain ⟨w0,kF⟩:∃ y:World,Hid (w.alloc (.cells #[.slice Pj lHD Qf,.bool (decide (d<0))] 99)=y):=⟨_,zh rfl⟩
 have hbw0:Below w.heap.size w w0:=by rw [← kF.out];exact aA
 have BD:aB w0 w.heap.size #[.slice Pj lHD Qf,.bool (decide (d<0))] 99:=by rw [← kF.out];exact aL
 rw [kF.out] at hgrow
 have hbg:Below w0.heap.size w0 w1:=(Below.refl _ _).grown hgrow (Nat.le_refl _) (fun k hk=>by cases hk)
 have HF:Hid (Fill w1 (w.heap.size+1) 99 xs.length 0 (iF f)):=zh (Fill.start hown)
 replace BD:=BD.later hbg
 have hb1:Below w.heap.size w w1:=Bt hbw0 hbg
 clear hown hgrow hbg hbw0
 go_wp2_with fail
 go_loopw [18] (fun iv wr=>∃ j:Nat,iv= .int .i64 (j:Int)∧j≤xs.length∧Hid (Fill wr (w.heap.size+1) 99 xs.length j (iF f))∧Hid (aB wr w.heap.size #[.slice Pj lHD Qf,.bool (decide (d<0))] 99)∧Below w.heap.size w wr) (fun iv _=>xs.length - (intOf iv).toNat)
 case atStart=>exact ⟨0,rfl,by omega,HF,zh BD,hb1⟩
 case round =>
  clear BD HF hb1
  obtain ⟨j,rfl,hj,HF,HBD,hb⟩:=hrel
  rcases Nat.lt_or_ge j xs.length with hlt|hge
  ·obtain ⟨b1,o1,p1,n1,c1,e1,m1,m2,m3,m4⟩:=HRX.out j hlt
   cases e1
   obtain ⟨b2,o2,p2,n2,c2,e2,r1,r2,r3,r4⟩:=HRY.out j hlt
   cases e2
   have cx1:=(hb.cell (p:=⟨bk,ofk+k*2,none⟩) lk1).trans lk2
   have cx2:=(hb.cell (p:=⟨bk,ofk+k*2+1,none⟩) lk1).trans lk3
   have cx3:=(hb.cell (p:=⟨bk,ofk+j*2,none⟩) lk1).trans m2
   have cx4:=(hb.cell (p:=⟨bk,ofk+j*2+1,none⟩) lk1).trans m3
   have GY:=(hb.cell (p:=⟨bj,ofj+k*2,none⟩) lj1).trans lj2
   have Yl:=(hb.cell (p:=⟨bj,ofj+k*2+1,none⟩) lj1).trans lj3
   have cy3:=(hb.cell (p:=⟨bj,ofj+j*2,none⟩) lj1).trans r2
   have cy4:=(hb.cell (p:=⟨bj,ofj+j*2+1,none⟩) lj1).trans r3
   have aS5:bk<wr.heap.size:=Nat.lt_of_lt_of_le lk1 hb.size
   have aS4:bj<wr.heap.size:=Nat.lt_of_lt_of_le lj1 hb.size
   have QS:=zh (HK1.out.later hb)
   have MG:=zh (HJ1.out.later hb)
   have UA:=zh (m4.later hb)
   have U4:=zh (r4.later hb)
   have Ae:=zh (HD.out.later hb)
   have S1:=zh (HX.out k)
   have S2:=zh (HY.out k)
   have S3:=zh (HX.out j)
   have S4:=zh (HY.out j)
   have SZ:=zh (HZ.out j)
   have HFJ:=zh (HF0.out j)
   have BD:=HBD.out
   have N9:=BD.cell
   have Nv:=BD.free
   have Nj:=BD.lt
   have lG:=HF.out.lt
   clear m1 m2 m3 m4 r1 r2 r3 r4 HBD
   generalize xs.getD k 0=xk at *
   generalize ys.getD k 0=yk at *
   generalize xs.getD j 0=xj at *
   generalize ys.getD j 0=yj at *
   generalize hfj:f j=fj at *
   have aJ0:=zh hfj
   clear hfj
   obtain ⟨p,Ep⟩:∃ y:Int,Hid (yk*xj=y):=⟨_,zh rfl⟩
   obtain ⟨q,Eq⟩:∃ y:Int,Hid (xk*yj=y):=⟨_,zh rfl⟩
   rw [Ep.out,Eq.out] at SZ HFJ
   obtain ⟨mq,Em⟩:∃ y:Int,Hid (-q=y):=⟨_,zh rfl⟩
   rw [Em.out] at SZ HFJ
   obtain ⟨z,Ez⟩:∃ y:Int,Hid (p+mq=y):=⟨_,zh rfl⟩
   rw [Ez.out] at SZ HFJ
   go_wp2_with fail
   refine aC [(.pure,0),(.pure,1),(.pure,2),(.read,3),(.pure,4),(.pure,5),(.pure,6),(.read,7),(.pure,9),(.pure,10),(.pure,11),(.read,12),(.pure,13),(.pure,14),(.pure,15),(.read,16),(.ext,8),(.ext,17),(.alloc #[.slice none 0 0,.bool false] 99,18),(.alloc #[.slice none 0 0,.bool false] 99,19),(.fin,20),(.fin,21)] zk zk zR zP ?_
   repeat (first|(refine ah rfl rfl fun J h=>?_;go_simp;refine h _ ?_;clear h J)|(refine au rfl rfl rfl rfl fun J h=>?_;go_simp;refine h _ ?_;clear h J;try go_simp))
   refine aD rfl rfl (fun w11 zJ J hJ=>?_);go_simp
   replace QS:=zh (aM.carry QS.out aH zJ)
   replace MG:=zh (aM.carry MG.out aH zJ)
   replace UA:=zh (aM.carry UA.out aH zJ)
   replace U4:=zh (aM.carry U4.out aH zJ)
   replace Ae:=zh (aM.carry Ae.out aH zJ)
   replace BD:=aB.later (aB.drew BD) zJ;replace N9:=BD.cell;replace Nv:=BD.free;replace Nj:=BD.lt
   refine ((om _ _ yk xj _ (aZ.aW aH) (aZ.aW aH) S2.out S3.out).mono (by rw [Ep.out];exact fun _ _ h=>h)).mono ?_
   rintro e v11 ⟨v,rfl,uU,hv⟩
   obtain ⟨aR7,lHP,aY2,rfl,HP⟩:=hv;replace HP:=zh HP
   replace QS:=zh (aM.later QS.out uU)
   replace MG:=zh (aM.later MG.out uU)
   replace UA:=zh (aM.later UA.out uU)
   replace U4:=zh (aM.later U4.out uU)
   replace Ae:=zh (aM.later Ae.out uU)
   replace BD:=aB.later (BD) uU;replace N9:=BD.cell;replace Nv:=BD.free;replace Nj:=BD.lt
   refine hJ _ _ uU ?_
   clear hJ J
   refine aD rfl rfl (fun w12 eZ J hJ=>?_);go_simp
   replace HP:=zh (aM.carry HP.out aH eZ)
   replace Ae:=zh (aM.carry Ae.out aH eZ)
   replace BD:=aB.later (BD) eZ;replace N9:=BD.cell;replace Nv:=BD.free;replace Nj:=BD.lt
   refine ((om _ _ xk yj _ (aZ.aW aH) (aZ.aW aH) S1.out S4.out).mono (by rw [Eq.out];exact fun _ _ h=>h)).mono ?_
   rintro e v12 ⟨v,rfl,Dh,hv⟩
   obtain ⟨aC6,lHQ,aI1,rfl,HQ⟩:=hv;replace HQ:=zh HQ
   replace HP:=zh (aM.later HP.out Dh)
   replace Ae:=zh (aM.later Ae.out Dh)
   replace BD:=aB.later (BD) Dh;replace N9:=BD.cell;replace Nv:=BD.free;replace Nj:=BD.lt
   refine hJ _ _ Dh ?_
   clear hJ J
   refine aQ rfl (fun b13 w13 aD7 D5 SH Yf eX=>?_);go_simp;replace eX:aB _ _ _ _:=eX;have Nt:w.heap.size≤b13:=(by first|omega|exact Nat.le_trans (Below.size (B:=w.heap.size) aA) D5)
   replace BD:=aB.later (BD) aD7;replace N9:=BD.cell;replace Nv:=BD.free;replace Nj:=BD.lt
   refine aQ rfl (fun b14 XE aq3 aw8 aE1 ax1 mP=>?_);go_simp;replace mP:aB _ _ _ _:=mP;have aK8:w.heap.size≤b14:=(by first|omega|exact Nat.le_trans (Below.size (B:=w.heap.size) aA) aw8)
   replace BD:=aB.later (BD) aq3;replace N9:=BD.cell;replace Nv:=BD.free;replace Nj:=BD.lt;replace eX:=aB.later (eX) aq3;replace BU:=eX.cell;replace BK:=eX.free;replace Bh:=eX.lt
   refine aJ [_,_] rfl (fun w15 uV=>?_)
   replace BD:=aB.later (BD) uV;replace N9:=BD.cell;replace Nv:=BD.free;replace Nj:=BD.lt;replace eX:=aB.later (eX) uV;replace BU:=eX.cell;replace BK:=eX.free;replace Bh:=eX.lt;replace mP:=aB.later (mP) uV;replace Ue:=mP.cell;replace TF:=mP.free;replace Sk:=mP.lt
   have n1:b13≠b14:=fun e=>ax1 (by simp [e])
   have n2:b14≠b13:=fun e=>n1 e.symm
   replace HP:=zh (aM.carry HP.out aH uV)
   replace HQ:=zh (aM.carry HQ.out aH uV)
   replace Ae:=zh (aM.carry Ae.out aH uV)
   have hbw:Below wr.heap.size wr w15:=aA
   have n3:w.heap.size≠b13:=by omega
   have n4:w.heap.size≠b14:=by omega
   go_wp2_with fail
   have KP:=zh SZ.out.1
   have KM:=zh SZ.out.2.1
   have KZ:=zh SZ.out.2.2
   refine aC [(.pure,0),(.pure,1),(.read,2),(.read,3),(.read,6),(.ext,4),(.ext,5),(.ext,7),(.pure,8),(.fin,9)] zk zk zR zP ?_
   repeat (first|(refine ah rfl rfl fun J h=>?_;go_simp;refine h _ ?_;clear h J)|(refine au rfl rfl rfl rfl fun J h=>?_;go_simp;refine h _ ?_;clear h J;try go_simp))
   refine aD rfl rfl (fun w16 iZ J hJ=>?_);go_simp
   replace HP:=zh (aM.carry HP.out aH iZ)
   replace HQ:=zh (aM.carry HQ.out aH iZ)
   replace Ae:=zh (aM.carry Ae.out aH iZ)
   replace eX:aB _ (b13) _ _:=aB.later aL iZ;(try simp only [List.setIfInBounds_toArray,List.set_cons_zero,List.set_cons_succ] at eX);replace BU:=eX.cell;replace BK:=eX.free;replace Bh:=eX.lt
   replace mP:aB _ (b14) _ _:=aB.later aL iZ;(try simp only [List.setIfInBounds_toArray,List.set_cons_zero,List.set_cons_succ] at mP);replace Ue:=mP.cell;replace TF:=mP.free;replace Sk:=mP.lt
   replace BD:aB _ (w.heap.size) _ _:=aB.later aL iZ;(try simp only [List.setIfInBounds_toArray,List.set_cons_zero,List.set_cons_succ] at BD);replace N9:=BD.cell;replace Nv:=BD.free;replace Nj:=BD.lt
   refine ((oZ _ q _ (aZ.aW aH)).mono (by rw [Em.out];exact fun _ _ h=>h)).mono ?_
   rintro e v16 ⟨v,rfl,hc16,hv⟩
   obtain ⟨KO,Zx,LZ,rfl,HN⟩:=hv;replace HN:=zh HN
   replace HP:=zh (aM.later HP.out hc16)
   replace HQ:=zh (aM.later HQ.out hc16)
   replace Ae:=zh (aM.later Ae.out hc16)
   replace eX:=aB.later (eX) hc16;replace BU:=eX.cell;replace BK:=eX.free;replace Bh:=eX.lt
   replace mP:=aB.later (mP) hc16;replace Ue:=mP.cell;replace TF:=mP.free;replace Sk:=mP.lt
   replace BD:=aB.later (BD) hc16;replace N9:=BD.cell;replace Nv:=BD.free;replace Nj:=BD.lt
   refine hJ _ _ hc16 ?_
   clear hJ J
   refine aD rfl rfl (fun w17 oP J hJ=>?_);go_simp
   replace Ae:=zh (aM.carry Ae.out aH oP)
   replace BD:=aB.later (BD) oP;replace N9:=BD.cell;replace Nv:=BD.free;replace Nj:=BD.lt
   refine ((vH _ _ p mq _ (aZ.aW aH) (aZ.aW aH) KP.out KM.out).mono (by rw [Ez.out];exact fun _ _ h=>h)).mono ?_
   rintro e v17 ⟨v,rfl,hc17,hv⟩
   obtain ⟨Vx,lHS,WW,rfl,HS⟩:=hv;replace HS:=zh HS
   replace Ae:=zh (aM.later Ae.out hc17)
   replace BD:=aB.later (BD) hc17;replace N9:=BD.cell;replace Nv:=BD.free;replace Nj:=BD.lt
   refine hJ _ _ hc17 ?_
   clear hJ J
   refine aD rfl rfl (fun UU mU J hJ=>?_);go_simp
   replace Ae:=zh (aM.carry Ae.out aH mU)
   replace BD:=aB.later (BD) mU;replace N9:=BD.cell;replace Nv:=BD.free;replace Nj:=BD.lt
   refine ((Rt _ _ z d _ (aZ.aW aH) (aZ.aW aH) H0.out KZ.out).mono (by rw [HFJ.out];exact fun _ _ h=>h)).mono ?_
   rintro e v18 ⟨v,rfl,hc18,hv⟩
   obtain ⟨FI,VQ,Gu,rfl,HV⟩:=hv;replace HV:=zh HV
   replace Ae:=zh (aM.later Ae.out hc18)
   replace BD:=aB.later (BD) hc18;replace N9:=BD.cell;replace Nv:=BD.free;replace Nj:=BD.lt
   refine hJ _ _ hc18 ?_
   clear hJ J
   repeat (first|(refine ah rfl rfl fun J h=>?_;go_simp;refine h _ ?_;clear h J)|(refine au rfl rfl rfl rfl fun J h=>?_;go_simp;refine h _ ?_;clear h J;try go_simp))
   refine aJ [_] rfl (fun Vi iO=>?_)
   replace BD:=aB.later (BD) iO;replace N9:=BD.cell;replace Nv:=BD.free;replace Nj:=BD.lt;replace HV:=zh (aM.later HV.out iO)
   have Tp:Below wr.heap.size wr Vi:=by
    have hs:=hbw.size
    exact aA
   replace HF:Hid (Fill Vi (w.heap.size+1) 99 xs.length j (iF f)):=zh (HF.out.later Tp (iF.later Tp))
   obtain ⟨⟨y1,GY⟩,⟨y2,Yl⟩,fy⟩:=HF.out.cells hlt
   have Nl:=HF.out.uS
   have aw1:Below w.heap.size w Vi:=Bt hb Tp
   have hne:w.heap.size≠w.heap.size+1:=by omega
   go_wp2_with fail
   go_roundw
   case rel =>
    refine ⟨j+1,by go_num,by omega,zh (HF.out.step hlt (fun i x y h=>iF.lJ Nl.setCell zd _ _ _ (iF.lJ Nl zd _ _ _ h)) (by unfold iF;rw [aJ0.out];exact ⟨_,_,_,rfl,rfl,(HV.out.lJ Nl zd).lJ Nl.setCell zd⟩)),zh ((BD.setOther _ hne).setOther _ hne),(aw1.setCell zi _).setCell zi _⟩
   case measure=>exact zM
  ·obtain rfl:j=xs.length:=by omega
   have hfin:bZ wr (.slice (some ⟨w.heap.size+1,0,none⟩) xs.length xs.length) ((List.range xs.length).map f):=by
    have hl2:((List.range xs.length).map f).length=xs.length:=by simp
    have hF:=HF.out
    have:bZ wr (.slice (some ⟨w.heap.size+1,0,none⟩) ((List.range xs.length).map f).length ((List.range xs.length).map f).length) ((List.range xs.length).map f):=by
     refine bZ.uy ?_ (by rw [hl2];omega)
     rw [hl2]
     obtain ⟨arr,g1,g2,g3⟩:=hF
     refine ⟨arr,g1,g2,fun i hi=>?_⟩
     obtain ⟨x,y,k1,k2,pa,l,ca,k3,k4,k5⟩:=g3 i hi
     have e:((List.range xs.length).map f).getD i 0=f i:=by simp [hi]
     exact ⟨x,y,k1,k2,pa,l,ca,k3,by simp only [e];exact k4,by simp only [e];exact k5⟩
    rw [hl2] at this
    exact this
   have ah1:=zh hfin
   clear hfin
   go_wp2_with fail
   go_ret
   exact ⟨_,_,_,rfl,by omega,hb,ah1.out⟩
def grow (S:Nat):Nat→Nat
 | 0=>S
 | k+1=>2*grow S k+1
theorem WC {S k:Nat} (h:k≤4):grow S k≤16*S+15:=by
 have:k=0∨k=1∨k=2∨k=3∨k=4:=by omega
 rcases this with rfl|rfl|rfl|rfl|rfl<;>simp [grow]<;>omega
def UL (w:World) (B off n:Nat) (R:Int × Bool × IM) (e:Ending) (w':World):Prop :=
 ∃ v,e= .returned (.tuple #[v,.bool R.2.1])∧gY w w' B∧aZ w' v R.1∧tQ w' B off n (fun i=>R.2.2.getD i [])
def mix (rs:IM) (k:Nat) (p:Int) (i j:Nat):List Int:=if j<i then jS rs k p j else rs.getD j []
theorem IE (rs:IM) (k:Nat) (p:Int) (i j:Nat):(if j=i then jS rs k p i else mix rs k p i j)=mix rs k p (i+1) j:=by
 unfold mix
 by_cases h:j=i
 ·subst h;simp
 ·rw [if_neg h]
  by_cases h2:j<i
  ·rw [if_pos h2,if_pos zo]
  ·rw [if_neg h2,if_neg zo]
theorem R4 (rs:IM) (k:Nat) (p:Int) (j:Nat):mix rs k p k j=mix rs k p (k+1) j:=by
 rw [← IE]
 by_cases h:j=k
 ·subst h;rw [if_pos rfl];simp [mix,jS]
 ·rw [if_neg h]
theorem R5 (rs:IM) (k:Nat) (p:Int) (i:Nat):mix rs k p i i=rs.getD i []:=by unfold mix;rw [if_neg zo]
theorem R3 (rs:IM) (k:Nat) (p:Int) (j:Nat):mix rs k p 0 j=rs.getD j []:=by unfold mix;rw [if_neg zo]
theorem ao9 (rs:IM) (k:Nat) (p:Int) (i:Nat):mix rs k p i k=rs.getD k []:=by
 unfold mix jS
 split<;>simp
theorem Gp (B off n c cap S:Nat) (rs:IM) (w:World) (h:tQ w B off n (fun i=>rs.getD i [])) (hf:rs.fits n c S) (h1:1≤n) (hn:n≤4) (hnc:n≤c) (hc:c≤1000) (hS:S≤10000000) (hS1:1≤S) (hcap:n≤cap) (hcap2:cap≤9223372036854775807) :
  Calls Tryz.prog 59 #[.slice (some ⟨B,off,none⟩) n cap] w (UL w B off n (elim n 0 rs 1 false)):=by
 have H0:=zh h.XG
 have HF:=zh hf
 have HS:=zh hS
 have hlt:=h.XG.lt
 obtain ⟨R,ER⟩:∃ R,Hid (elim n 0 rs 1 false=R):=⟨_,zh rfl⟩
 rw [ER.out]
 clear h hf hS
 go_enter Tryz.func59,Tryz.ntmps59
 go_wp2_with fail
 obtain ⟨w1,Ew1⟩:∃ y:World,Hid (((w.alloc (.cells #[.slice (some ⟨w.heap.size+1,0,none⟩) 1 1,.bool false] 99)).alloc (.cells #[.int .u32 1] 113))=y):=⟨_,zh rfl⟩
 have hb1:Below w.heap.size w w1:=by rw [← Ew1.out];exact aA
 have Yd:aB w1 w.heap.size #[.slice (some ⟨w.heap.size+1,0,none⟩) 1 1,.bool false] 99:=by rw [← Ew1.out];exact aL
 have hP:aB w1 w.heap.size #[.slice (some ⟨w.heap.size+1,0,none⟩) 1 1,.bool (decide ((1:Int)<0))] 99:=Yd
 have hZ1:sz 1000000000 (1:Int).natAbs≤grow S 0:=by
  have:sz 1000000000 (1:Int).natAbs=1:=by decide+kernel
  rw [this];exact hS1
 have HZ1:=zh hZ1
 have hM1:aM w1 (.slice (some ⟨w.heap.size+1,0,none⟩) 1 1) ((1:Int).natAbs):=by
  rw [← Ew1.out]
  have:=aM.lit (w:=w.alloc (.cells #[.slice (some ⟨w.heap.size+1,0,none⟩) 1 1,.bool false] 99)) (d:=1) zo zo
  simpa using this
 have HR1:=zh (H0.out.later hb1)
 have Xq:=zh ((gY.refl w B).below hb1)
 have HP1:=zh hP
 have QS:=zh hM1
 rw [Ew1.out]
 have hne:B≠w.heap.size:=by omega
 have hne2:w.heap.size≠B:=by omega
 clear hP Yd hM1 hb1 hZ1 H0
 go_loopw [12,3] (fun kv tv wr=>∃ (k:Nat) (t:Bool) (rk:IM) (p:Int) (pa:Option Addr) (l ca:Nat),kv= .int .i64 (k:Int)∧tv= .bool t∧k≤n∧Hid (elim (n - k) k rk p t=R)∧Hid (rk.fits n c (grow S k))∧Hid (p≠0)∧Hid (sz 1000000000 p.natAbs≤grow S k) ∧
  Hid (gG wr w.heap.size B off n (fun i=>rk.getD i []))∧Hid (aB wr w.heap.size #[.slice pa l ca,.bool (decide (p<0))] 99)∧Hid (aM wr (.slice pa l ca) p.natAbs)∧Hid (gY w wr B)) (fun kv _ _=>n - (intOf kv).toNat)
 case atStart=>exact ⟨0,false,rs,1,_,_,_,rfl,rfl,by omega,by rw [Nat.sub_zero];exact ER,HF,zh zd,HZ1,HR1,HP1,QS,Xq⟩
 case round =>
  clear HR1 Xq HP1 QS HF ER Ew1 HZ1
  obtain ⟨k,t,rk,p,pa,l,ca,rfl,rfl,hk,HE,HF,H0,HZ,HR,HP,HM,HN⟩:=hrel
  obtain ⟨wo,hwo⟩:∃ y,y=wr:=⟨_,rfl⟩
  subst hwo
  have cP:=HP.out.cell
  have fP:=HP.out.free
  have lP:=HP.out.lt
  have lB:=HR.out.lt
  rcases Nat.lt_or_ge k n with hlt|hge
  ·have hlt2:(k:Int)<(n:Int):=by omega
   go_wp2_with fail
   go_step3
   go_wp2_with fail
   go_step3
   go_wp2_with fail
   go_loopw [6,5] (fun iv av wr=>∃ i:Nat,iv= .int .i64 (i:Int)∧av= .int .i64 (-1)∧k≤i∧i≤n∧wr=wo∧Hid (∀ j,k≤j→j<i→rk.at j k=0)) (fun iv _ _=>n - (intOf iv).toNat)
   case atStart=>exact ⟨k,rfl,rfl,Nat.le_refl _,by omega,rfl,zh (fun j h1 h2=>by omega)⟩
   case round =>
    obtain ⟨i,rfl,rfl,hki,hin,hwr,H0s⟩:=hrel
    subst hwr
    rcases Nat.lt_or_ge i n with SK|hgi
    ·have aU6:(i:Int)<(n:Int):=by omega
     obtain ⟨a,cc,ci,hl1,hl2,hiv,hoff⟩:=HR.out.get SK
     obtain ⟨f1,f2,f3⟩:=HF.out
     obtain ⟨b,o,pe,ne,ce,rfl, -, lb,ce1,ce2,hme⟩:=hiv.elem hoff (show k<(rk.getD i []).length by rw [f2 i SK];omega)
     rw [f2 i SK] at hl1 ci
     have HME:=zh hme
     have HAT:Hid ((rk.getD i []).getD k 0=rk.at i k):=zh rfl
     rw [HAT.out] at HME
     have hkc:k<c:=by omega
     clear hiv hoff hme f1 f2 f3
     go_wp2_with fail
     refine (iq _ _ _ HME.out).mono ?_
     rintro e w1 ⟨rfl,rfl⟩
     by_cases hz:rk.at i k=0
     ·have HZ0:=zh hz
      have b1:decide ((rk.at i k).natAbs=0)=true:=by rw [hz];rfl
      rw [b1]
      clear hz b1
      go_wp2_with fail
      go_roundw
      case rel=>exact ⟨i+1,by go_num,rfl,by omega,by omega,trivial,zh fun j h1 h2=>by
       rcases Nat.lt_or_ge j i with h|h
       ·exact H0s.out j h1 h
       ·obtain rfl:j=i:=by omega
        exact HZ0.out⟩
      case measure=>exact zM
     ·have HZ0:=zh hz
      have b1:decide ((rk.at i k).natAbs=0)=false:=by simp [hz]
      have aI5:decide ((i:Int)<0)=false:=by simp
      rw [b1]
      clear b1 hz ci ce1 ce2
      go_upto_if 38 with fail
      obtain ⟨Fz,YD⟩:∃ y:IM,Hid ((if i=k then rk else qy rk i k)=y):=⟨_,zh rfl⟩
      obtain ⟨t1,ET1⟩:∃ y:Bool,Hid ((if i=k then t else !t)=y):=⟨_,zh rfl⟩
      go_cut [3] from 13 to 85 (fun tv wx=>tv= .bool t1∧Hid (gG wx w.heap.size B off n (fun j=>Fz.getD j []))∧Hid (aB wx w.heap.size #[.slice pa l ca,.bool (decide (p<0))] 99)∧Hid (aM wx (.slice pa l ca) p.natAbs)∧Hid (gY w wx B))
      case first =>
       by_cases hik:i=k
       ·have b2:((i:Int) != (k:Int))=false:=by simp [hik]
        have EI:=zh hik
        clear hik
        go_wp2_with fail
        go_meet
        case rel =>
         rw [if_pos EI.out] at YD ET1
         exact ⟨by rw [ET1.out],by rw [← YD.out];exact HR,HP,HM,HN⟩
       ·have b2:((i:Int) != (k:Int))=true:=by simp;omega
        have EI:=zh hik
        clear hik
        obtain ⟨ai,cci,ci1, -, -, C9,DW⟩:=HR.out.get SK
        obtain ⟨ak,cck,ci2, -, -, C8,wW⟩:=HR.out.get hlt
        have f2:=HF.out.2.1
        rw [f2 i SK] at ci1 C9 DW
        rw [f2 k hlt] at ci2 C8 wW
        clear f2
        have HI1:=zh C9
        have HI2:=zh C8
        have Xp:=zh DW
        have mY:=zh wW
        have fB:=HR.out.free
        clear C9 C8 DW wW
        go_wp2_with fail
        refine aC [(.pure,0),(.pure,1),(.pure,2),(.pure,3),(.pure,4),(.pure,5),(.pure,6),(.read,7),(.pure,8),(.pure,9),(.pure,10),(.read,11),(.pure,12),(.fin,13),(.fin,14),(.fin,15)] zk zk zR zP ?_
        repeat (first|(refine ah rfl rfl fun J h=>?_;go_simp;refine h _ ?_;clear h J)|(refine au rfl rfl rfl rfl fun J h=>?_;go_simp;refine h _ ?_;clear h J;try go_simp))
        refine aJ [_,_,_] rfl (fun w2 hb2=>?_)
        have hb2':Below wr.heap.size wr w2:=aA
        replace HR:=zh (HR.out.later hb2')
        replace HI1:=zh (HI1.out.later hb2')
        replace HI2:=zh (HI2.out.later hb2')
        replace HM:=zh (HM.out.later hb2')
        replace HN:=zh (HN.out.below hb2')
        replace HP:=zh (HP.out.later hb2')
        have isB:=HR.out.uS
        replace fB:=HR.out.free
        obtain ⟨_,_,ci1, -⟩:=HR.out.get SK
        obtain ⟨_,_,ci2, -⟩:=HR.out.get hlt
        have hnk:¬ off+i=off+k:=by have:=EI.out;omega
        have aU0:¬ off+k=off+i:=by omega
        go_wp2_with fail
        go_meet
        case rel =>
         rw [if_neg EI.out] at YD ET1
         refine ⟨by rw [ET1.out],zh ?_,zh ((HP.out.setOther _ hne2).setOther _ hne2),zh ((HM.out.lJ isB zd).lJ isB.setCell zd),zh ((HN.out.set _ _).set _ _)⟩
         refine ((HR.out.set SK HI2.out mY.out).set hlt (HI1.out.kept (Keep.setCell isB) zd zd) Xp.out).congr fun j hj=>?_
         rw [← YD.out,vG HF.out.1 SK hlt hj]
         by_cases e1:j=k
         ·rw [if_pos e1,if_pos e1]
         ·rw [if_neg e1,if_neg e1]
          by_cases e2:j=i
          ·rw [if_pos e2,if_pos e2]
          ·rw [if_neg e2,if_neg e2]
      case rest =>
       obtain ⟨rfl,HR1,HP1,QS,Xq⟩:=hcut
       clear HR HP HM HN cP fP lP lB lb HME hl1 hl2
       have hf1:Fz.fits n c (grow S k):=by
        rw [← YD.out]
        split
        ·exact HF.out
        ·exact HF.out.swap SK hlt
       have hp1:Fz.at k k=rk.at i k:=by
        rw [← YD.out]
        split
        ·rename_i h;rw [h]
        ·exact OQ HF.out.1 SK hlt
       have hE1:elim (n - (k+1)) (k+1) (jT Fz k p) (Fz.at k k) t1=R:=by
        rw [← HE.out]
        obtain ⟨m,hm⟩:∃ m,n - k=m+1:=⟨n - k - 1,by omega⟩
        have hm2:n - (k+1)=m:=by omega
        rw [hm,hm2]
        conv=>rhs;unfold elim
        rw [O8 hki (by rw [HF.out.1];exact SK) (fun j h1 h2=>H0s.out j h1 h2) HZ0.out]
        simp only [YD.out,ET1.out]
       have Qq:=zh hf1
       have HP0:=zh (show Fz.at k k≠0 by rw [hp1];exact HZ0.out)
       have HE1:=zh hE1
       clear hf1 hp1 hE1 HE HF H0s HZ0 YD ET1 HAT aI5
       replace HR1:=zh (HR1.out.congr (g:=mix Fz k p 0) fun j hj=>(R3 _ _ _ _).symm)
       go_wp2_with fail
       go_loopw [57] (fun jv wr=>∃ j:Nat,jv= .int .i64 (j:Int)∧j≤n∧Hid (gG wr w.heap.size B off n (mix Fz k p j))∧Hid (aB wr w.heap.size #[.slice pa l ca,.bool (decide (p<0))] 99)∧Hid (aM wr (.slice pa l ca) p.natAbs)∧Hid (gY w wr B)) (fun jv _=>n - (intOf jv).toNat)
       case atStart=>exact ⟨0,rfl,by omega,HR1,HP1,QS,Xq⟩
       case round =>
        clear HR1 HP1 QS Xq
        obtain ⟨j,rfl,hj,HR,HP,HM,HN⟩:=hrel
        have cP:=HP.out.cell
        have fP:=HP.out.free
        have lP:=HP.out.lt
        have lB:=HR.out.lt
        obtain ⟨ak,cck,ci2,Td,aV2,C8,wW⟩:=HR.out.get hlt
        have f2:=Qq.out.2.1
        rw [ao9,f2 k hlt] at ci2 Td C8 wW
        rcases Nat.lt_or_ge j n with hlj|hgj
        ·have aU4:(j:Int)<(n:Int):=by omega
         by_cases hjk:j=k
         ·have b2:((j:Int) != (k:Int))=false:=by simp [hjk]
          have EI:=zh hjk
          clear hjk f2 C8 wW
          go_wp2_with fail
          exact ⟨⟨j+1,by go_num,by omega,zh (HR.out.congr fun x _=>by rw [EI.out];exact R4 _ _ _ _),HP,HM,HN⟩,by simp only [intOf];omega⟩
         ·have b2:((j:Int) != (k:Int))=true:=by simp;omega
          have EI:=zh hjk
          obtain ⟨aj,ccj,ci1,Te,PO,C9,DW⟩:=HR.out.get hlj
          rw [R5,f2 j hlj] at ci1 Te C9 DW
          have HI1:=zh C9
          have HI2:=zh C8
          have hS1:=HS.out
          have hg1:=WC (S:=S) (k:=k) zo
          have U7:Hid (∀ w',Below wr.heap.size wr w'→Calls Tryz.prog 120 #[.slice aj c ccj,.slice ak c cck,.int .i64 (k:Int),.agg #[.slice pa l ca,.bool (decide (p<0))]] w' (fun e w''=>∃ g m cg,e= .returned (.slice (some ⟨g,0,none⟩) m cg)∧w'.heap.size≤g∧Below w'.heap.size w' w''∧bZ w'' (.slice (some ⟨g,0,none⟩) m cg) (jS Fz k p j))):=zh fun w' hb=>by
           have:=Jl _ _ _ (Fz.getD j []) (Fz.getD k []) k p w' (HI1.out.later hb) (HI2.out.later hb) (aZ.aW (HM.out.later hb)) (by rw [f2 j hlj,f2 k hlt]) (by rw [f2 j hlj];exact hkc) (by rw [f2 j hlj];exact hc) H0.out (fun i=>Nat.le_trans (Qq.out.2.2 j i) zo) (fun i=>Nat.le_trans (Qq.out.2.2 k i) zo)
           unfold jS
           rw [if_neg EI.out]
           exact this
          clear hjk C9 C8 DW wW f2 hS1 hg1
          go_wp2_with fail
          refine aC [(.pure,0),(.pure,1),(.pure,2),(.pure,3),(.pure,4),(.read,5),(.pure,6),(.pure,7),(.pure,8),(.read,9),(.pure,10),(.read,11),(.ext,12),(.pure,13),(.fin,14)] zk zk zR zP ?_
          repeat (first|(refine ah rfl rfl fun J h=>?_;go_simp;refine h _ ?_;clear h J)|(refine au rfl rfl rfl rfl fun J h=>?_;go_simp;refine h _ ?_;clear h J;try go_simp))
          refine aD rfl rfl (fun w2 hb2 J hJ=>?_);go_simp
          have hb2':Below wr.heap.size wr w2:=aA
          refine (U7.out _ hb2').mono ?_
          rintro e w3 ⟨g,m,cg,rfl,hg,hc3,hiv⟩
          have HIV:=zh hiv
          clear hiv
          refine hJ _ _ hc3 ?_
          clear hJ J
          repeat (first|(refine ah rfl rfl fun J h=>?_;go_simp;refine h _ ?_;clear h J)|(refine au rfl rfl rfl rfl fun J h=>?_;go_simp;refine h _ ?_;clear h J;try go_simp))
          refine aJ [_] rfl (fun w4 hb4=>?_)
          have Wv:Below wr.heap.size wr w4:=Bt (Bt hb2' hc3) hb4
          have hoff:Off w.heap.size (.slice (some ⟨g,0,none⟩) m cg):=by
           intro a m' c' e
           have:=hb2'.size
           cases e
           show g≠w.heap.size
           omega
          replace HR:=zh (HR.out.later Wv)
          replace HIV:=zh (HIV.out.later hb4)
          replace HM:=zh (HM.out.later Wv)
          replace HN:=zh (HN.out.below Wv)
          replace HP:=zh (HP.out.later Wv)
          have Qo:=zh hoff
          have isB:=HR.out.uS
          have fB:=HR.out.free
          obtain ⟨_,_,ci3, -⟩:=HR.out.get hlj
          clear ci1 ci2 cP fP lP hoff hb2 hb4
          go_wp2_with fail
          go_roundw
          case rel =>
           refine ⟨j+1,by go_num,by omega,zh ((HR.out.set hlj HIV.out Qo.out).congr fun x _=>IE Fz k p j x),zh (HP.out.setOther _ hne2),zh (HM.out.lJ isB zd),zh (HN.out.set _ _)⟩
          case measure=>exact zM
        ·have hjN:n=j:=by omega
         subst hjN
         replace HR:=zh (HR.out.congr (g:=fun x=>(jT Fz k p).getD x []) fun x hx=>by
          rw [qj (by rw [Qq.out.1];exact hx)]
          unfold mix
          rw [if_pos hx])
         have hkl:k<(Fz.getD k []).length:=by rw [f2 k hlt];exact hkc
         obtain ⟨be,oe,pe,ne,ce,rfl,hbe,lbe,ce1,ce2,hme⟩:=C8.elem wW hkl
         have HME:=zh hme
         have HAT:Hid ((Fz.getD k []).getD k 0=Fz.at k k):=zh rfl
         rw [HAT.out] at HME ce2
         clear hme C8 wW f2 hkl
         go_wp2_with fail
         rw [Exit.noGoto_normal]
         go_wp2_with fail
         have QD:=HP.out.uS
         have hpz:sz 1000000000 (Fz.at k k).natAbs≤grow S (k+1):=by
          have:=Qq.out.2.2 k k
          simp only [grow]
          omega
         refine ⟨⟨k+1,t1,jT Fz k p,Fz.at k k,pe,ne,ce,by go_num,rfl,by omega,HE1,zh (Qq.out.clear p),HP0,zh hpz,zh ((HR.out.sF QD).sF QD.setCell),zh ((HP.out.set 0 _).set 1 _),zh ((HME.out.lJ QD zd).lJ QD.setCell zd),zh ((HN.out.gT (Nat.le_refl _) _ _).gT (Nat.le_refl _) _ _)⟩,by simp only [intOf];omega⟩
    ·have hiN:i=n:=by omega
     have hR:R=(0,false,rk):=by
      rw [← HE.out]
      obtain ⟨m,hm⟩:∃ m,n - k=m+1:=⟨n - k - 1,by omega⟩
      rw [hm]
      unfold elim
      rw [O9 (fun j h1 h2=>H0s.out j h1 (by have:=HF.out.1;omega))]
     have HRR:=zh hR
     clear hR hiN
     go_wp2_with fail
     rw [Exit.noGoto_ret]
     go_wp2_with fail
     refine aP rfl rfl ((HP.out.set 0 _).set 1 _) Tryz.underlying99 rfl zk ?_
     have QD:=HP.out.uS
     refine ⟨_,by rw [HRR.out];rfl,(HN.out.gT (Nat.le_refl _) _ _).gT (Nat.le_refl _) _ _,?_,?_⟩
     ·rw [HRR.out]
      exact ⟨none,0,0,rfl,aM.zero _⟩
     ·rw [HRR.out]
      exact ((HR.out.sF QD).sF QD.setCell).XH
  ·have hkN:n=k:=by omega
   subst hkN
   have hR:R=(p,t,rk):=by
    rw [← HE.out,Nat.sub_self]
    rfl
   have HRR:=zh hR
   clear hR
   go_wp2_with fail
   refine aP rfl rfl ((HP.out.set 0 _).set 1 _) Tryz.underlying99 rfl zk ?_
   have QD:=HP.out.uS
   refine ⟨_,by rw [HRR.out];rfl,(HN.out.gT (Nat.le_refl _) _ _).gT (Nat.le_refl _) _ _,?_,?_⟩
   ·rw [HRR.out]
    exact aZ.aW ((HM.out.lJ QD zd).lJ QD.setCell zd)
   ·rw [HRR.out]
    exact ((HR.out.sF QD).sF QD.setCell).XH
def D8 (m:RM):Int × Bool × IM:=elim m.length 0 (ext (m.map iy)) 1 false
def VT (m:RM) (i c:Nat):Rat:=(((D8 m).2.2.at i (m.length+c)*((cK (m.getD c []):Nat):Int):Int):Rat) / (((D8 m).1:Int):Rat)
def lS (m:RM):RM:=(List.range m.length).map fun i=>(List.range m.length).map (VT m i)
def Sr (m:RM):Int:=if (D8 m).1=0 then 7 else if gX (lS m) then 0 else 6
theorem Dz {m:RM} {n:Nat} (h:m.ok n):IM.fits (m.map iy) m.length n 1000:=by
 obtain ⟨h1,h2,h3,h4,h5⟩:=h
 refine ⟨by simp,fun i hi=>?_,fun i j=>?_⟩
 ·rw [getD_lt (show i<(m.map iy).length by simpa using hi)]
  simp only [List.getElem_map]
  have:=(h5 m[i] (List.getElem_mem _)).1
  simp [iy,this]
 ·unfold IM.at
  by_cases hi:i<m.length
  ·rw [getD_lt (show i<(m.map iy).length by simpa using hi)]
   simp only [List.getElem_map]
   obtain ⟨k1,k2⟩:=h5 m[i] (List.getElem_mem _)
   exact nQ k2 zo j
  ·have e:(m.map iy).getD i []=[]:=by rw [List.getD_eq_getElem?_getD,List.getElem?_eq_none (by simp;omega)];rfl
   rw [e]
   simp [jk]
theorem TH {m:RM} (h:m.ok m.length):(D8 m).2.2.fits m.length (2*m.length) 16015∧sz 1000000000 (D8 m).1.natAbs≤16015:=by
 have h1:sz 1000000000 (1:Int).natAbs≤1000:=by
  have:sz 1000000000 (1:Int).natAbs=1:=by decide+kernel
  omega
 obtain ⟨k1,k2⟩:=D7 m.length 0 1000 (ext (m.map iy)) 1 false (Ja (Dz h) zo) h1 zo
 have hg:=Tx (S:=1000) (m:=m.length) h.2.1
 exact ⟨k1.mono hg,Nat.le_trans k2 hg⟩
theorem tQ.read {w:World} {B off n c:Nat} {rs:IM} (h:tQ w B off n (fun i=>rs.getD i [])) {S:Nat} (hf:rs.fits n c S) {i j:Nat} (hi:i<n) (hj:j<c) :
  ∃ b o cc pa l ca,B<w.heap.size∧w.cell? ⟨B,off+i,none⟩=some (.slice (some ⟨b,o,none⟩) c cc)∧b<w.heap.size∧w.cell? ⟨b,o+j*2,none⟩=some (.slice pa l ca)∧w.cell? ⟨b,o+j*2+1,none⟩=some (.bool (decide (rs.at i j<0)))∧aM w (.slice pa l ca) (rs.at i j).natAbs:=by
 obtain ⟨arr,h1,h2⟩:=h
 obtain ⟨v,k1,k2⟩:=h2 i hi
 have hl:(rs.getD i []).length=c:=hf.2.1 i hi
 obtain ⟨a,cc,rfl,k4,k5,k6⟩:=k2.read
 obtain ⟨b,o,pa,l,ca,rfl,g1,g2,g3,g4⟩:=k6 j (by rw [hl];exact hj)
 rw [hl] at k1
 exact ⟨b,o,cc,pa,l,ca,h1.lt,(h1.cell _).trans k1,g1,g2,g3,g4⟩
theorem GI (va:Value) (ma:RM) (w:World) (ha:bO w va ma.fr) (RO:ma.ok ma.length) (ht:pR.Pow w) :
  Calls Tryz.prog 23 #[va] w (aS w (Sr ma) (lS ma).fr):=by
 have KW:=RO
 obtain ⟨a1,a4,b1,b4,oD⟩:=RO
 obtain ⟨ba,Zk,aH7,a0,cap0,rfl,lba,ca0⟩:=bO.head ha zo
 have hwa:(ma.headD []).length=ma.length:=by
  cases ma with
  | nil=>simp at a1
  | cons r t=>exact (oD r zi).1
 rw [hwa] at ca0
 have QU:=zh (fun w' hx=>gD _ ma.fr w' (ha.later hx))
 rw [KW.zn] at QU
 have xP:=zh (fun w' hx=>uq _ ma w' (ha.later hx) a4 (fun r hr=>⟨by have:=(oD r hr).1;omega,(oD r hr).2⟩))
 have hfit:=Dz KW
 have ab4:=TH KW
 have hext:=Ja hfit zo
 have HXT:=zh (fun v w' (hx:Ci w' v (ma.map iy))=>I9 v (ma.map iy) ma.length w' hx zi hfit.2.1 a1 a4)
 have HEL:=zh (fun B w' (hx:tQ w' B 0 ma.length (fun i=>(ext (ma.map iy)).getD i []))=>Gp B 0 ma.length (2*ma.length) ma.length 1000 (ext (ma.map iy)) w' hx hext a1 a4 zo zo zo zo (Nat.le_refl _) zo)
 obtain ⟨EL,UD⟩:∃ y,Hid (D8 ma=y):=⟨_,zh rfl⟩
 have au9:elim ma.length 0 (ext (ma.map iy)) 1 false=EL:=UD.out
 rw [au9] at HEL
 rw [UD.out] at ab4
 obtain ⟨piv,turned,W⟩:=EL
 obtain ⟨E,EE⟩:∃ E:Nat→Nat→Rat,E=VT ma:=⟨_,rfl⟩
 obtain ⟨er,vZ⟩:∃ y:Int,Hid ((if piv=0 then 7 else if gX (lS ma) then 0 else 6)=y):=⟨_,zh rfl⟩
 have her:Sr ma=er:=by
  unfold Sr
  rw [UD.out]
  exact vZ.out
 rw [her]
 have HEE:Hid (∀ i c,((W.at i (ma.length+c)*((cK (ma.getD c []):Nat):Int):Int):Rat) / ((piv:Int):Rat)=E i c):=zh fun i c=>by
  rw [EE]
  unfold VT
  rw [UD.out]
 have J6:Hid (∀ i,i<ma.length→(lS ma).getD i []=(List.range ma.length).map (E i)):=zh fun i hi=>by
  rw [EE]
  unfold lS
  simp [hi]
 have Cm:Hid ((lS ma).length=ma.length):=zh (by simp [lS])
 obtain ⟨MM,EMM⟩:∃ y:RM,Hid (lS ma=y):=⟨_,zh rfl⟩
 rw [EMM.out] at vZ J6 Cm ⊢
 have HAR:=zh oD
 have HSZ:=zh ab4
 have HT:=zh ht
 obtain ⟨n,hna⟩:∃ y,ma.length=y:=⟨_,rfl⟩
 have Yx:=zh hna
 clear ha KW oD hwa ht EE EMM her au9 UD hfit ab4 hext
 rw [hna] at QU xP HXT HEL a1 a4 b1 b4 J6 Cm HAR HSZ HEE ca0 ⊢
 clear hna
 have a0n:0<n:=by omega
 go_enter Tryz.func23,Tryz.ntmps23
 go_wp2_with fail
 refine (QU.out _ (Below.refl _ _)).mono ?_
 rintro e v1 ⟨rfl,hc1⟩
 have c1:=(hc1.cell (p:=⟨ba,Zk,none⟩) lba).trans ca0
 go_wp2_with fail
 refine (xP.out _ hc1).mono ?_
 rintro e v2 ⟨vt,rfl,hc2,htab⟩
 obtain ⟨Zb,Zn,ca1,Za,Zm,ca2,rfl,hra,hma⟩:=htab
 have MF:=zh hra
 have GJ:=zh hma
 have hw2:Below w.heap.size w v2:=Bt hc1 hc2
 clear hra hma c1
 go_wp2_with fail
 have hx2:Below v2.heap.size v2 (v2.alloc (.cells #[.slice Zb Zn ca1,.slice Za Zm ca2] 93)):=aA
 refine (HXT.out _ _ (MF.out.later hx2)).mono ?_
 rintro e v3 ⟨B,rfl,hBv,hc3,hrb⟩
 have HRB:=zh hrb
 clear hrb
 go_wp2_with fail
 refine (HEL.out _ _ HRB.out).mono ?_
 rintro e v4 ⟨vp,rfl,hN4,hvp,hrb⟩
 have WB:Below (v2.alloc (.cells #[.slice Zb Zn ca1,.slice Za Zm ca2] 93)).heap.size (v2.alloc (.cells #[.slice Zb Zn ca1,.slice Za Zm ca2] 93)) v4:=gY.toBelow hN4 hc3 hBv
 have h24:Below v2.heap.size v2 v4:=Bt hx2 WB
 have hx4:=aB.later (aB.new v2 #[.slice Zb Zn ca1,.slice Za Zm ca2] 93) WB
 obtain ⟨RF,Zw,Ui,rfl,HPV⟩:=hvp;replace HPV:=zh HPV
 replace HRB:=zh hrb
 have HX4:=zh hx4
 replace GJ:=zh (GJ.out.later h24)
 have hw4:Below w.heap.size w v4:=Bt hw2 h24
 clear hrb hx4 hN4 hc3 hx2 WB h24 hc1 hc2 hw2 MF HXT HEL QU xP
 go_wp2_with fail
 have hx5:Below v4.heap.size v4 (v4.alloc (.cells #[.slice RF Zw Ui,.bool (decide (piv<0))] 99)):=aA
 refine (iq _ _ _ (HPV.out.later hx5)).mono ?_
 rintro e v5 ⟨rfl,rfl⟩
 by_cases hp0:piv=0
 ·have b0:decide (piv.natAbs=0)=true:=by simp [hp0]
  have her:er=7:=by rw [← vZ.out,if_pos hp0]
  have HE7:=zh her
  rw [b0]
  clear her hp0 b0
  go_wp2_with fail
  go_ret2
  rw [HE7.out]
  exact aS.no (Bt hw4 hx5) zd
 ·have b0:decide (piv.natAbs=0)=false:=by simp [hp0]
  have HP0:=zh hp0
  have zW:Hid ((if gX MM then 0 else 6)=er):=zh (by rw [← vZ.out,if_neg hp0])
  rw [b0]
  clear hp0 b0
  obtain ⟨P9,Bv,hmk⟩:=wQ n zo
  have MH:=zh Bv
  clear Bv
  go_wp2_with fail
  obtain ⟨vb,QW⟩:∃ y,v4.alloc (.cells #[.slice RF Zw Ui,.bool (decide (piv<0))] 99)=y:=⟨_,rfl⟩
  rw [QW] at hx5
  have hM:v4.heap.size+1=vb.heap.size:=by rw [← QW];simp
  have Xh:=zh (HX4.out.later hx5)
  have HX8:Hid (aB vb v4.heap.size #[.slice RF Zw Ui,.bool (decide (piv<0))] 99):=zh (by rw [← QW];exact aL)
  rw [QW,hM]
  have hwb:Below w.heap.size w vb:=Bt hw4 hx5
  have ay6:=zh (HPV.out.later hx5)
  have ar0:tQ vb B 0 n (fun i=>W.getD i []):=by
   obtain ⟨arr,k1,k2⟩:=HRB.out
   exact ⟨arr,k1.later hx5,fun i hi=>by obtain ⟨v,g1,g2⟩:=k2 i hi;exact ⟨v,g1,g2.later hx5⟩⟩
  have ay4:=zh ar0
  obtain ⟨hn2,hr2⟩:=rP (GJ.out.later hx5)
  rw [List.length_map,Yx.out] at hn2
  replace hn2:=hn2.symm
  subst hn2
  have HR2:=zh hr2
  have HM:=zh (gB.xY (f:=fun i=>((List.range n).map (E i)).map Fr.of) (aB.new vb P9 56) MH.out)
  have Yg:Below vb.heap.size vb (vb.alloc (.cells P9 56)):=aA
  obtain ⟨X6,EX6⟩:∃ y,v2.heap.size=y:=⟨_,rfl⟩
  obtain ⟨X8,EX8⟩:∃ y,v4.heap.size=y:=⟨_,rfl⟩
  rw [EX6] at Xh ⊢
  rw [EX8] at HX8 ⊢
  have l6:X6<vb.heap.size:=Xh.out.lt
  have l8:X8<vb.heap.size:=HX8.out.lt
  have csz:=hwb.size
  clear hr2 ar0 GJ HRB HPV HX4 hM hw4 hx5 EX6 EX8 hmk MH QW
  obtain ⟨G6,IY,hmk⟩:=wR n zo
  have MH:=zh IY
  clear IY
  go_loopw [45] (fun iv wr=>∃ r:Nat,iv= .int .i64 (r:Int)∧r≤n∧Hid (gB wr vb.heap.size n r (fun i=>((List.range n).map (E i)).map Fr.of))∧Hid (∀ i,i<r→∀ c,c<n→dA (E i c)=true)∧Below vb.heap.size vb wr) (fun iv _=>n - (intOf iv).toNat)
  case atStart=>exact ⟨0,rfl,by omega,HM,zh (fun i h=>by omega),Yg⟩
  case round =>
   clear HM Yg
   obtain ⟨r,rfl,hr,HM,HK,hb⟩:=hrel
   obtain ⟨wo,hwo⟩:∃ y,y=wr:=⟨_,rfl⟩
   subst hwo
   have lM:=HM.out.lt
   rcases Nat.lt_or_ge r n with hlt|hge
   ·have hlt2:(r:Int)<(n:Int):=by omega
    obtain ⟨⟨y1,GY⟩,fy⟩:=HM.out.cell hlt
    obtain ⟨qK,bM,hsz, -⟩:=HM.out
    have Qs:=zh bM
    have hrs:r<qK.size:=by omega
    clear bM hsz
    go_wp2_with fail
    clear GY fy
    have hGM:wo.heap.size≠vb.heap.size:=by omega
    have PW:vb.heap.size≠wo.heap.size:=by omega
    have Ye:aB ((wo.setCell ⟨vb.heap.size,r,none⟩ (.slice (some ⟨wo.heap.size,0,none⟩) n n)).alloc (.cells G6 36 (0,0))) wo.heap.size G6 36:=aB.pW zi
    have HF:=zh (show Fill _ wo.heap.size 36 n 0 (xR fun i=>Fr.of (E r i)) from ⟨G6,Ye,MH.out,fun i hi=>by omega⟩)
    have HB:=zh ((Qs.out.set r (.slice (some ⟨wo.heap.size,0,none⟩) n n)).alloc (.cells G6 36 (0,0)))
    have HN:=zh (((gY.refl wo vb.heap.size).set r (.slice (some ⟨wo.heap.size,0,none⟩) n n)).below (w':=(wo.setCell ⟨vb.heap.size,r,none⟩ (.slice (some ⟨wo.heap.size,0,none⟩) n n)).alloc (.cells G6 36 (0,0))) aA)
    clear Ye
    go_loopw [58] (fun iv wr=>∃ c:Nat,iv= .int .i64 (c:Int)∧c≤n∧Hid (Fill wr wo.heap.size 36 n c (xR fun i=>Fr.of (E r i)))∧Hid (∀ i,i<c→dA (E r i)=true)∧Hid (aB wr vb.heap.size (qK.setIfInBounds r (.slice (some ⟨wo.heap.size,0,none⟩) n n)) 56)∧Hid (gY wo wr vb.heap.size)) (fun iv _=>n - (intOf iv).toNat)
    case atStart=>exact ⟨0,rfl,by omega,HF,zh (fun i h=>by omega),HB,HN⟩
    case round =>
     clear HF HB HN
     obtain ⟨c,rfl,hcn,HF,HKc,HB,HN⟩:=hrel
     rcases Nat.lt_or_ge c n with hcl|hcl
     ·have PO:(c:Int)<(n:Int):=by omega
      have hbv:Below vb.heap.size vb wr:=HN.out.toBelow hb (Nat.le_refl _)
      obtain ⟨b1,o1,cc1,p1,m1,d1,lB,e1,e2,e3,e4,e5⟩:=tQ.read ay4.out HSZ.out.1 hlt (show n+c<2*n by omega)
      obtain ⟨b2,o2,p2,m2,d2,rfl,f2,f3,f4⟩:=HR2.out c (by rw [List.length_map,Yx.out];exact hcl)
      simp only [List.getElem_map] at f4
      rw [Nat.zero_add] at e1
      have q0:=(hbv.cell (p:=⟨B,r,none⟩) lB).trans e1
      have q1:=(hbv.cell (p:=⟨b1,o1+(n+c)*2,none⟩) e2).trans e3
      have q1b:=(hbv.cell (p:=⟨b1,o1+(n+c)*2+1,none⟩) e2).trans e4
      have q2:=(hbv.cell (p:=⟨b2,o2+c,none⟩) f2).trans f3
      have x6:=(Xh.out.later hbv).cell
      have x8:=(HX8.out.later hbv).cell
      have G1:=zh (e5.later hbv)
      have G2:=zh (f4.later hbv)
      have G3:=zh (ay6.out.later hbv)
      have l0:=Nat.lt_of_lt_of_le lB hbv.size
      have l1:=Nat.lt_of_lt_of_le e2 hbv.size
      have l2:=Nat.lt_of_lt_of_le f2 hbv.size
      have z6:=Nat.lt_of_lt_of_le l6 hbv.size
      have z8:=Nat.lt_of_lt_of_le l8 hbv.size
      obtain ⟨j,hj⟩:∃ j,n+c=j:=⟨_,rfl⟩
      have ej:(n:Int)+(c:Int)=(j:Int):=by omega
      have hj2:j<2*n:=by omega
      have hj3:(j:Int)<2*(n:Int):=by omega
      have hwj:IntKind.i64.wrap (j:Int)=(j:Int):=by rw [IntKind.wrap_i64];omega
      have hcm:c<ma.length:=by rw [Yx.out];exact hcl
      have hcc:=HAR.out ma[c] (List.getElem_mem _)
      have hee:=HEE.out r c
      rw [hj,getD_lt hcm] at hee
      rw [hj] at q1 q1b G1
      have YA:=zh hee
      have hlc:=hcc.1
      have hkc:=rF ma[c] hcc.2
      have hk1:=HSZ.out.1.2.2 r j
      have hk2:=HSZ.out.2
      have hsm:=kg (W.at r j) (cK ma[c])
      clear lB e1 e2 e3 e4 e5 f2 f3 f4 hcc hee hj Xh HX8 ay4 HR2 ay6
      generalize ma[c]=cc at *
      clear hcm
      generalize W.at r j=x at *
      generalize cK cc=dc at *
      obtain ⟨z,EZ⟩:∃ y:Int,Hid (x*((dc:Nat):Int)=y):=⟨_,zh rfl⟩
      rw [EZ.out] at YA hsm
      have KX:=zh (show sz 1000000000 x.natAbs≤549755813888 by omega)
      have KD:=zh (show sz 1000000000 dc≤549755813888 by omega)
      have KZ:=zh (show sz 1000000000 z.natAbs≤549755813888 by omega)
      have KP:=zh (show sz 1000000000 piv.natAbs≤549755813888 by omega)
      clear hlc hkc hk1 hk2 hsm
      have HW:=YA
      obtain ⟨q,EQ⟩:∃ x:Rat,Hid (E r c=x):=⟨_,zh rfl⟩
      rw [EQ.out] at HW
      have Xo:=zh (HT.out.later (Bt hwb hbv))
      have lG:=HF.out.lt
      have lMr:=HB.out.lt
      go_wp2_with fail
      refine aC [(.pure,0),(.pure,1),(.pure,2),(.read,3),(.pure,4),(.pure,5),(.pure,6),(.pure,7),(.read,8),(.pure,9),(.read,10),(.pure,11),(.pure,12),(.read,13),(.read,15),(.ext,14),(.ext,16),(.pure,17),(.pure,18),(.pure,19),(.alloc #[.string ⟨#[]⟩,.string ⟨#[]⟩] 36,20),(.fin,21),(.fin,22)] zk zk zR zP ?_
      repeat (first|(refine ah rfl rfl fun J h=>?_;go_simp;refine h _ ?_;clear h J)|(refine au rfl rfl rfl rfl fun J h=>?_;go_simp;refine h _ ?_;clear h J;try go_simp))
      refine aD rfl rfl (fun w31 Tn J hJ=>?_);go_simp
      replace G1:=zh (aM.carry G1.out aH Tn)
      replace G2:=zh (aM.carry G2.out aH Tn)
      replace G3:=zh (aM.carry G3.out aH Tn)
      refine ((lK _ _ x dc _ (aZ.aW aH) aH KX.out KD.out).mono (by rw [EZ.out];exact fun _ _ h=>h)).mono ?_
      rintro e v31 ⟨v,rfl,hc31,hv⟩
      obtain ⟨ao5,lHz,ax6,rfl,Hz⟩:=hv;replace Hz:=zh Hz
      replace G1:=zh (aM.later G1.out hc31)
      replace G2:=zh (aM.later G2.out hc31)
      replace G3:=zh (aM.later G3.out hc31)
      refine hJ _ _ hc31 ?_
      clear hJ J
      have hq2:dA q=true∨dA q=false:=by cases dA q<;>simp
      rcases hq2 with hq2|hq2
      ·have Ot:Hid (Fr.res (dB.wr q)= .tuple #[.agg #[.string (Fr.of q).n,.string (Fr.of q).d],.int .i64 0]):=zh (by unfold dB.wr;rw [if_pos hq2];rfl)
       have CB:=zh hq2
       clear hq2
       obtain ⟨s1,Oz⟩:∃ x:ByteArray,Hid ((Fr.of q).n=x):=⟨_,zh rfl⟩
       obtain ⟨s2,Oy⟩:∃ x:ByteArray,Hid ((Fr.of q).d=x):=⟨_,zh rfl⟩
       rw [Oz.out,Oy.out] at Ot
       refine aD rfl rfl (fun w33 Lx J hJ=>?_);go_simp
       refine ((jO _ _ z piv _ (aZ.aW aH) (aZ.aW aH) HP0.out KZ.out KP.out (Xo.out.later aA)).mono (by rw [HW.out,Ot.out];exact fun _ _ h=>h)).mono ?_
       rintro e v33 ⟨rfl,Lm⟩
       refine hJ _ _ Lm ?_
       clear hJ J
       repeat (first|(refine ah rfl rfl fun J h=>?_;go_simp;refine h _ ?_;clear h J)|(refine au rfl rfl rfl rfl fun J h=>?_;go_simp;refine h _ ?_;clear h J;try go_simp))
       refine aQ rfl (fun b20 w17 ZE DY ZQ aw9 mM=>?_);go_simp;replace mM:aB _ _ _ _:=mM;have aw3:w.heap.size≤b20:=(by first|omega|exact Nat.le_trans (Below.size (B:=w.heap.size) aA) DY)
       refine aJ [_,_] rfl (fun UU mU=>?_)
       replace mM:=aB.later (mM) mU;replace Uc:=mM.cell;replace TB:=mM.free;replace Si:=mM.lt
       have yB:Below wr.heap.size wr UU:=aA
       have ad9:wr.heap.size≤b20:=DY
       replace HF:=zh (HF.out.yA yB)
       replace HB:=zh (HB.out.later yB)
       replace HN:=zh (HN.out.below yB)
       have ne1:wo.heap.size≠b20:=by omega
       have ne2:vb.heap.size≠b20:=by omega
       have QI:wo.heap.size≤b20:=by omega
       clear q0 q1 q1b q2 x6 x8 yB DY Xo
       go_wp2_with fail
       obtain ⟨Vi,E19⟩:∃ y,(UU.setCell ⟨b20,0,none⟩ (.string s1)).setCell ⟨b20,1,none⟩ (.string s2)=y:=⟨_,rfl⟩
       replace HF:=zh ((HF.out.other (a:=⟨b20,0,none⟩) (.string s1) ne1).other (a:=⟨b20,1,none⟩) (.string s2) ne1)
       replace HB:=zh ((HB.out.setOther (a:=⟨b20,0,none⟩) (.string s1) ne2).setOther (a:=⟨b20,1,none⟩) (.string s2) ne2)
       replace HN:=zh ((HN.out.gT QI 0 (.string s1)).gT QI 1 (.string s2))
       have ru:=(mM.set 0 (.string s1)).set 1 (.string s2)
       simp only [List.setIfInBounds_toArray,List.set_cons_zero,List.set_cons_succ] at ru
       rw [E19] at HF HB HN ru ⊢
       clear E19 mM Uc TB Si
       have c17:=ru.cell
       have l17:=ru.lt
       have cM:=HB.out.cell r
       rw [Array.getElem?_setIfInBounds,if_pos rfl,if_pos hrs] at cM
       have lM9:=HB.out.lt
       refine aC [(.pure,0),(.pure,1),(.pure,2),(.read,3),(.pure,4),(.read,5),(.pure,6),(.fin,7)] zk zk zR zP ?_
       repeat (first|(refine ah rfl rfl fun J h=>?_;go_simp;refine h _ ?_;clear h J)|(refine au rfl rfl rfl rfl fun J h=>?_;go_simp;refine h _ ?_;clear h J;try go_simp))
       refine aJ [_] rfl (fun w20 sS=>?_)
       have F7:Below Vi.heap.size Vi w20:=aA
       replace HF:=zh (HF.out.yA F7)
       replace HB:=zh (HB.out.later F7)
       replace HN:=zh (HN.out.below F7)
       obtain ⟨⟨y1,GY⟩,⟨y2,Yl⟩,fy⟩:=HF.out.cells hcl
       have aD2:=HF.out.lt
       clear sS F7 c17 l17 cM lM9 ru
       go_wp2_with fail
       go_roundw
       case rel =>
        refine ⟨c+1,by go_num,by omega,zh (HF.out.step hcl (fun _ _ _ h=>h) ⟨?_,?_⟩),zh fun i hi=>?_,zh ((HB.out.setOther _ PW).setOther _ PW),zh ((HN.out.gT (Nat.le_refl _) _ _).gT (Nat.le_refl _) _ _)⟩
        ·show Value.string s1= .string (Fr.of (E r c)).n
         rw [EQ.out,Oz.out]
        ·show Value.string s2= .string (Fr.of (E r c)).d
         rw [EQ.out,Oy.out]
        ·rcases Nat.lt_or_ge i c with h|h
         ·exact HKc.out i h
         ·obtain rfl:i=c:=by omega
          rw [EQ.out]
          exact CB.out
       case measure=>exact zM
      ·have Ot:Hid (Fr.res (dB.wr q)= .tuple #[.agg #[.string ⟨#[]⟩,.string ⟨#[]⟩],.int .i64 6]):=zh (rY hq2)
       have hbad:gX MM=false:=by
        unfold gX
        rw [List.all_eq_false]
        refine ⟨MM.getD r [],?_,?_⟩
        ·rw [getD_lt (show r<MM.length by rw [Cm.out];exact hlt)]
         exact List.getElem_mem _
        ·rw [J6.out r hlt]
         simp only [List.all_map,Bool.not_eq_true]
         rw [List.all_eq_false]
         exact ⟨c,List.mem_range.2 hcl,by simp only [Function.comp];rw [EQ.out,hq2];simp⟩
       have her:er=6:=by rw [← zW.out,if_neg (by rw [hbad];simp)]
       have GL:=zh her
       clear hq2 hbad her
       refine aD rfl rfl (fun w33 Lx J hJ=>?_);go_simp
       refine ((jO _ _ z piv _ (aZ.aW aH) (aZ.aW aH) HP0.out KZ.out KP.out (Xo.out.later aA)).mono (by rw [HW.out,Ot.out];exact fun _ _ h=>h)).mono ?_
       rintro e v33 ⟨rfl,Lm⟩
       refine hJ _ _ Lm ?_
       clear hJ J
       repeat (first|(refine ah rfl rfl fun J h=>?_;go_simp;refine h _ ?_;clear h J)|(refine au rfl rfl rfl rfl fun J h=>?_;go_simp;refine h _ ?_;clear h J;try go_simp))
       refine aQ rfl (fun b20 w17 ZE DY ZQ aw9 mM=>?_);go_simp;replace mM:aB _ _ _ _:=mM;have aw3:w.heap.size≤b20:=(by first|omega|exact Nat.le_trans (Below.size (B:=w.heap.size) aA) DY)
       refine aJ [_,_] rfl (fun UU mU=>?_)
       replace mM:=aB.later (mM) mU;replace Uc:=mM.cell;replace TB:=mM.free;replace Si:=mM.lt
       have yB:Below w.heap.size w UU:=Bt (Bt hwb hbv) aA
       have ad9:wr.heap.size≤b20:=DY
       have hwr:=(Bt hwb hbv).size
       clear q0 q1 q1b q2 x6 x8
       go_wp2_with fail
       go_ret2
       rw [GL.out]
       exact aS.no ((yB.setCell (by simp;omega) _).setCell (by simp;omega) _) zd
     ·have Tc:n=c:=by omega
      subst Tc
      go_wp2_with fail
      go_roundw
      case rel =>
       have hbv:Below vb.heap.size vb wr:=HN.out.toBelow hb (Nat.le_refl _)
       refine ⟨r+1,by go_num,by omega,zh (HM.out.step (v:=.slice (some ⟨wo.heap.size,0,none⟩) n n) hlt HN.out (fun arr hA=>?_) ?_),zh fun i hi c hc=>?_,hbv⟩
       ·have hAM:arr=qK:=dB.aB.uniq hA Qs.out
        rw [hAM]
        exact HB.out
       ·refine Fill.zL (HF.out.BQ fun i hi=>?_) zi zo
        simp [hi]
       ·rcases Nat.lt_or_ge i r with h|h
        ·exact HK.out i h c hc
        ·obtain rfl:i=r:=by omega
         exact HKc.out c hc
      case measure=>exact zM
   ·have hrn:n=r:=by omega
    subst hrn
    have hall:gX MM=true:=by
     unfold gX
     rw [List.all_eq_true]
     intro x hx
     obtain ⟨i,hi,rfl⟩:=List.getElem_of_mem hx
     rw [Cm.out] at hi
     have e:=J6.out i hi
     rw [getD_lt (show i<MM.length by rw [Cm.out];exact hi)] at e
     rw [e,List.all_eq_true]
     intro q hq
     obtain ⟨c,hc,rfl⟩:=List.mem_map.1 hq
     exact HK.out i hi c (List.mem_range.1 hc)
    have her:er=0:=by rw [← zW.out,if_pos hall]
    have hmv:bO wo (.slice (some ⟨vb.heap.size,0,none⟩) n n) MM.fr:=by
     have e1:MM.fr.length=n:=by unfold RM.fr;rw [List.length_map];exact Cm.out
     have:bO wo (.slice (some ⟨vb.heap.size,0,none⟩) MM.fr.length MM.fr.length) MM.fr:=by
      refine gB.zC ?_ zo
      rw [e1]
      obtain ⟨arr,k1,k2,k3⟩:=HM.out
      refine ⟨arr,k1,k2,fun i hi=>?_⟩
      have e2:MM.fr.getD i []=((List.range n).map (E i)).map Fr.of:=by
       rw [← J6.out i hi]
       simp [RM.fr,show i<List.length MM by rw [Cm.out];exact hi]
      show ∃ v,arr[i]? =some v∧jI wo 36 v (MM.fr.getD i [])
      rw [e2]
      exact k3 i hi
     rw [e1] at this
     exact this
    have vY:=zh hmv
    have Xt:=zh her
    clear hall hmv her
    go_wp2_with fail
    go_ret2
    rw [Xt.out]
    exact aS.yes (Bt hwb hb) vY.out
theorem zw.near {w w':World} {M:Nat} {v:Value} {ds:List Nat} (h:zw w v ds) (k:gY w w' M) (hM:vX w M 103):zw w' v ds:=by
 obtain ⟨cs,hM⟩:=hM
 have row:∀ {T:TypeId} {v:Value} {xs:List Value},T≠103→Row w T v xs→Row w' T v xs:=fun hT h=>by
  obtain ⟨a,cap,h1,h2,h3,h4,h5⟩:=h
  refine ⟨a,cap,h1,h2,h3,h4,fun ad had=>?_⟩
  obtain ⟨h6,arr,h7,h8⟩:=h5 ad had
  have h7':aB w ad.block arr _:=h7
  exact ⟨h6,arr,k.box h7' (h7'.ne hM hT),h8⟩
 obtain ⟨rs,h1,h2⟩:=h
 exact ⟨rs,row zd h1,h2.mono fun _ _ h=>row zd h⟩
end Go.Proofs.matrix
namespace Go.Proofs.matrix
open Go Go.Num Go.dB
def mk3 (f:Nat→Nat→Rat):RM:=(List.range 3).map fun i=>(List.range 3).map (f i)
def Bb (f g:Nat→Nat→Rat) (i j:Nat):Rat:=f i 0*g 0 j+f i 1*g 1 j+f i 2*g 2 j
theorem Po {f g:Nat→Nat→Rat} (h:∀ i,i<3→∀ j,j<3→f i j=g i j):mk3 f=mk3 g:=by
 show [[f 0 0,f 0 1,f 0 2],[f 1 0,f 1 1,f 1 2],[f 2 0,f 2 1,f 2 2]]=[[g 0 0,g 0 1,g 0 2],[g 1 0,g 1 1,g 1 2],[g 2 0,g 2 1,g 2 2]]
 rw [h 0 zo 0 zo,h 0 zo 1 zo,h 0 zo 2 zo,h 1 zo 0 zo,h 1 zo 1 zo,h 1 zo 2 zo,h 2 zo 0 zo,h 2 zo 1 zo,h 2 zo 2 zo]
theorem ax4 (a b c x y z:Rat):dK [a,b,c] [x,y,z]=a*x+b*y+c*z:=by
 show ((0+a*x)+b*y)+c*z=_
 rw [Rat.zero_add]
theorem Nf (f g:Nat→Nat→Rat):iY (mk3 f) (mk3 g) 3=mk3 (Bb f g):=by
 have e:∀ i j,dK [f i 0,f i 1,f i 2] [g 0 j,g 1 j,g 2 j]=Bb f g i j:=fun i j=>ax4 _ _ _ _ _ _
 show [[dK [f 0 0,f 0 1,f 0 2] [g 0 0,g 1 0,g 2 0],dK [f 0 0,f 0 1,f 0 2] [g 0 1,g 1 1,g 2 1],dK [f 0 0,f 0 1,f 0 2] [g 0 2,g 1 2,g 2 2]],
  [dK [f 1 0,f 1 1,f 1 2] [g 0 0,g 1 0,g 2 0],dK [f 1 0,f 1 1,f 1 2] [g 0 1,g 1 1,g 2 1],dK [f 1 0,f 1 1,f 1 2] [g 0 2,g 1 2,g 2 2]],
  [dK [f 2 0,f 2 1,f 2 2] [g 0 0,g 1 0,g 2 0],dK [f 2 0,f 2 1,f 2 2] [g 0 1,g 1 1,g 2 1],dK [f 2 0,f 2 1,f 2 2] [g 0 2,g 1 2,g 2 2]]]=_
 simp only [e]
 rfl
end Go.Proofs.matrix
namespace Go.Proofs.matrix
open Go Go.RowKit Go.SW Go.Num Go.Mem Go.Proofs Go.Dec Go.dB
end Go.Proofs.matrix
