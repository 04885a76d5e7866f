/- Lemmas for the proof. No condition. -/
import Derived.Test.YtddblpggomphpaaGreatDoorXB01
import Derived.Test.YtddblpggomphpaaGreatDoorXB02
import Derived.Test.YtddblpggomphpaaGreatDoorXB04
import Derived.Test.YtddblpggomphpaaGreatDoorXB07
import Derived.Test.YtddblpggomphpaaGreatDoorProg
import Derived.RangeFuncBox
import Derived.RangeFuncLeaves
import Derived.RangeFuncFrom
import Derived.Shelf.Abstract
import Derived.WalkKit
import Derived.OwnWalkIn
import Derived.TacticsInMore
import Derived.LoopNIn
import Derived.LoopIn
import Derived.RangeFuncNested
import Derived.RangeFuncBound
import Derived.RangeFuncCalls
import Derived.WalkMore
import Derived.Defers
import Derived.Recover
import Derived.Tactics2
set_option linter.unusedVariables false
set_option linter.unusedSimpArgs false
set_option maxRecDepth 100000
set_option maxHeartbeats 16000000
namespace Go.Proofs.light
open Go Go.RowKit Go.SW Go.Num Go.Mem Go.Proofs Go.Dec Go.dB
theorem Gm (v:Value) (l:List Fr) (T:TypeId) (w:World) (h:jI w T v l) :
  Calls Tryz.prog 113 #[v] w (fun e w'=>e= .returned (.int .i64 (dP l))∧Below w.heap.size w w'):=by
 obtain ⟨a,cap,rfl,hc1,hc2,hread⟩:=h.read
 have H:=zh hread
 clear h hread
 go_enter Tryz.func113,Tryz.ntmps113
 go_wp2_with fail
 go_loopw [8] (fun iv wr=>∃ k:Nat,iv= .int .i64 (k:Int)∧k≤l.length∧Hid (∀ j (h:j<l.length),j<k→(rd l[j]).isSome=true)∧Below w.heap.size w wr) (fun iv _=>l.length - (intOf iv).toNat)
 case atStart=>exact ⟨0,rfl,by omega,zh (fun j _ h=>by omega),Below.refl _ _⟩
 case round =>
  obtain ⟨k,rfl,hk,HK,hb⟩:=hrel
  rcases Nat.lt_or_ge k l.length with hlt|hge
  ·obtain ⟨b,off,rfl,hbl,hx1,hx2⟩:=H.out k hlt
   have hc1:=(hb.cell (p:=⟨b,off+k*2,none⟩) hbl).trans hx1
   have hc2:=(hb.cell (p:=⟨b,off+k*2+1,none⟩) hbl).trans hx2
   clear hx1 hx2
   have hck:=dJ.qH l[k]
   generalize hlk:l[k]=lk at *
   obtain ⟨s,t⟩:=lk
   cases hv:(rd ⟨s,t⟩).isSome with
   | true =>
    rw [tF hv] at hck
    have rV:Hid (∀ w,Calls Tryz.prog 81 #[.agg #[.string s,.string t]] w (fun e w'=>e= .returned (.int .i64 0)∧Below w.heap.size w w')):=zh hck
    have HLK:=zh hlk
    have HV:=zh hv
    clear hck hlk hv
    go_wp2_with fail
    refine (rV.out _).mono ?_
    rintro e v1 ⟨rfl,hc1⟩
    go_wp2_with fail
    go_roundw
    case rel =>
     refine ⟨k+1,by go_num,by omega,zh fun j hj hjk=>?_,Bt hb aA⟩
     rcases Nat.lt_or_ge j k with h|h
     ·exact HK.out j hj h
     ·obtain rfl:j=k:=by omega
      rw [HLK.out]
      exact HV.out
    case measure=>exact zM
   | false =>
    rw [LV hv] at hck
    have rV:Hid (∀ w,Calls Tryz.prog 81 #[.agg #[.string s,.string t]] w (fun e w'=>e= .returned (.int .i64 20)∧Below w.heap.size w w')):=zh hck
    have hno:dP l=20:=by
     unfold dP
     rw [if_neg]
     intro h
     have:=List.all_eq_true.1 h l[k] (List.getElem_mem _)
     rw [hlk,hv] at this
     cases this
    have QO:=zh hno
    clear hck hlk hv hno
    go_wp2_with fail
    refine (rV.out _).mono ?_
    rintro e v1 ⟨rfl,hc1⟩
    go_wp2_with fail
    go_ret
    exact ⟨by rw [QO.out];rfl,Bt hb aA⟩
  ·have hyes:dP l=0:=by
    unfold dP
    rw [if_pos]
    rw [List.all_eq_true]
    intro x hx
    obtain ⟨j,hj,rfl⟩:=List.getElem_of_mem hx
    exact HK.out j hj zo
   have Dr:=zh hyes
   clear hyes
   obtain rfl:k=l.length:=by omega
   go_wp2_with fail
   go_ret
   exact ⟨by rw [Dr.out];rfl,hb⟩
end Go.Proofs.light
namespace Go.Proofs.light
open Go Go.RowKit Go.Shelf Go.SW Go.Num Go.Mem Go.Proofs Go.Dec Go.dB
attribute [local go_sem] Oper.semAt_some
structure aY where
 x:Fr
 y:Fr
 z:Fr
deriving DecidableEq
def aY.cells (t:aY):Array Value:=#[.string t.x.n,.string t.x.d,.string t.y.n,.string t.y.d,.string t.z.n,.string t.z.d]
def aY.v (t:aY):Value:=.agg t.cells
def aY.get (t:aY) (i:Nat):Fr:=if i=0 then t.x else if i=1 then t.y else t.z
def aY.list (t:aY):List Fr:=[t.x,t.y,t.z]
def enc (t:aY) (k:Fin 3):Array Value:=#[.int .i64 (k.1:Int),(t.get k.1).v]
def upto (k:Nat) (h:k≤3):List (Fin 3):=List.ofFn (n:=k) fun i=>⟨i.1,Nat.lt_of_lt_of_le i.2 h⟩
theorem qw {k:Nat} (h:k+1≤3):upto (k+1) h=upto k zo++[⟨k,h⟩]:=by
 unfold upto
 rw [List.ofFn_succ_last]
 rfl
theorem iP {k:Nat} (h:k≤3):(upto k h).length=k:=by simp [upto]
theorem ZB (a b c d e f:ByteArray) (w:World):(Instr.index 38 (.agg #[.string a,.string b,.string c,.string d,.string e,.string f]) (.int .i64 0)).run Tryz.prog w= .ok (.agg #[.string a,.string b]) w:=by kernel_rfl
theorem ZA (a b c d e f:ByteArray) (w:World):(Instr.index 38 (.agg #[.string a,.string b,.string c,.string d,.string e,.string f]) (.int .i64 1)).run Tryz.prog w= .ok (.agg #[.string c,.string d]) w:=by kernel_rfl
theorem Zz (a b c d e f:ByteArray) (w:World):(Instr.index 38 (.agg #[.string a,.string b,.string c,.string d,.string e,.string f]) (.int .i64 2)).run Tryz.prog w= .ok (.agg #[.string e,.string f]) w:=by kernel_rfl
theorem Iw (F:Fence) (n:Nat) (hf:F.fn 165) (hro:F.round=none) (hn:1≤n) (l Bs n₀:Nat) (a b c d e f:ByteArray) (J Jx:List (Fin 3)→World→Prop) (B₀:Nat) (hJ0:AbidesFrom B₀ J)
  (hY:∀ pre x W,J pre W→pre.length<3→YieldAt F (n - 1) Tryz.prog l (enc ⟨⟨a,b⟩,⟨c,d⟩,⟨e,f⟩⟩ x) W fun en W' =>
   (en= .returned (.bool true)∧J (pre++[x]) W'∧Below n₀ W W')∨(en= .returned (.bool false)∧Jx (pre++[x]) W'))
  (W:World) (hn₀:n₀≤W.heap.size) (hBs:∀ o,W.cell? ⟨Bs,o,none⟩=#[Value.string a,.string b,.string c,.string d,.string e,.string f][o]?) (h0:J [] W) :
  CallsIn F n Tryz.prog 165 #[.func (.yield l) #[] #[],.pointer (some ⟨Bs,0,none⟩)] W fun en W'=>(∃ v,en= .returned v) ∧
   ((∃ ys,ys=upto 3 (Nat.le_refl _)∧J ys W')∨(∃ pre,True∧Jx pre W')):=by
 have i0:=ZB a b c d e f
 have i1:=ZA a b c d e f
 have i2:=Zz a b c d e f
 refine callsIn_of_wp Tryz.func165 rfl hf ?_ hro
 simp only [Tryz.ntmps165,List.size_toArray,List.length_cons,List.length_nil,Nat.reduceAdd,Nat.reduceSub,Array.replicate_succ,Array.replicate_zero,List.push_toArray,List.append_toArray,List.nil_append,List.cons_append]
 gi_wp2
 gi_loopw [6] (fun i wr=>∃ (k:Nat) (hk:k≤3),i= .int .i64 k∧J (upto k hk) wr∧Below n₀ W wr)
  (fun i _=>3 - (intOf i).toNat)
 case atStart=>exact ⟨0,Nat.zero_le _,rfl,h0,Below.refl _ _⟩
 case round =>
  obtain ⟨k,hk,rfl,hJs,hnx⟩:=hrel
  by_cases hlt:k<3
  ·have hkk:k=0∨k=1∨k=2:=by omega
   rcases hkk with rfl|rfl|rfl
   ·have hJ1:J (upto 0 hk) (wr.alloc (.cells #[.string a,.string b] 36)):=hJ0 _ _ _ none hJs (World.grownBy_alloc _ _ none) (fun r e=>by cases e)
    have hB1:Below n₀ W (wr.alloc (.cells #[.string a,.string b] 36)):=hnx.alloc (Nat.le_trans hn₀ hnx.size) _
    obtain ⟨fn,tmps,assign,body,hy,hR⟩:=hY _ ⟨0,hlt⟩ _ hJ1 (by rw [iP];exact hlt)
    have hy2:(Instr.yield l #[Value.int IntKind.i64 0,Value.agg #[Value.string a,Value.string b]]).run Tryz.prog (wr.alloc (.cells #[.string a,.string b] 36))=_:=hy
    clear hy hY
    gi_wp2
    refine hR.mono ?_
    rintro e W3 (⟨rfl,hJ3,hk3⟩|⟨rfl,hJx3⟩)
    ·gi_wp2
     go_roundw
     case rel=>exact ⟨0+1,hlt,by simp,by rw [qw];exact hJ3,hB1.trans hk3⟩
     case measure=>simp [intOf]
    ·gi_wp2
     refine bodyPost_ret (results_none rfl _ _ _) rfl ?_
     exact ⟨⟨_,rfl⟩,.inr ⟨_,trivial,hJx3⟩⟩
   ·have hJ1:J (upto 1 hk) (wr.alloc (.cells #[.string c,.string d] 36)):=hJ0 _ _ _ none hJs (World.grownBy_alloc _ _ none) (fun r e=>by cases e)
    have hB1:Below n₀ W (wr.alloc (.cells #[.string c,.string d] 36)):=hnx.alloc (Nat.le_trans hn₀ hnx.size) _
    obtain ⟨fn,tmps,assign,body,hy,hR⟩:=hY _ ⟨1,hlt⟩ _ hJ1 (by rw [iP];exact hlt)
    have hy2:(Instr.yield l #[Value.int IntKind.i64 1,Value.agg #[Value.string c,Value.string d]]).run Tryz.prog (wr.alloc (.cells #[.string c,.string d] 36))=_:=hy
    clear hy hY
    gi_wp2
    refine hR.mono ?_
    rintro e W3 (⟨rfl,hJ3,hk3⟩|⟨rfl,hJx3⟩)
    ·gi_wp2
     go_roundw
     case rel=>exact ⟨1+1,hlt,by simp,by rw [qw];exact hJ3,hB1.trans hk3⟩
     case measure=>simp [intOf]
    ·gi_wp2
     refine bodyPost_ret (results_none rfl _ _ _) rfl ?_
     exact ⟨⟨_,rfl⟩,.inr ⟨_,trivial,hJx3⟩⟩
   ·have hJ1:J (upto 2 hk) (wr.alloc (.cells #[.string e,.string f] 36)):=hJ0 _ _ _ none hJs (World.grownBy_alloc _ _ none) (fun r e=>by cases e)
    have hB1:Below n₀ W (wr.alloc (.cells #[.string e,.string f] 36)):=hnx.alloc (Nat.le_trans hn₀ hnx.size) _
    obtain ⟨fn,tmps,assign,body,hy,hR⟩:=hY _ ⟨2,hlt⟩ _ hJ1 (by rw [iP];exact hlt)
    have hy2:(Instr.yield l #[Value.int IntKind.i64 2,Value.agg #[Value.string e,Value.string f]]).run Tryz.prog (wr.alloc (.cells #[.string e,.string f] 36))=_:=hy
    clear hy hY
    gi_wp2
    refine hR.mono ?_
    rintro e W3 (⟨rfl,hJ3,hk3⟩|⟨rfl,hJx3⟩)
    ·gi_wp2
     go_roundw
     case rel=>exact ⟨2+1,hlt,by simp,by rw [qw];exact hJ3,hB1.trans hk3⟩
     case measure=>simp [intOf]
    ·gi_wp2
     refine bodyPost_ret (results_none rfl _ _ _) rfl ?_
     exact ⟨⟨_,rfl⟩,.inr ⟨_,trivial,hJx3⟩⟩
  ·obtain rfl:k=3:=by omega
   clear hY
   gi_wp2
   go_end0
   exact ⟨⟨_,rfl⟩,.inl ⟨_,rfl,hJs⟩⟩
theorem Ba (F:Fence) (n:Nat) (hf:F.fn 114) (hro:F.round=none) (t:aY) (w:World) :
  CallsIn F n Tryz.prog 114 #[t.v] w fun e w'=>e= .returned (.func (.func 165) #[] #[.pointer (some ⟨w.heap.size,0,none⟩)])∧w'=w.alloc (.cells t.cells 38):=by
 obtain ⟨⟨a,b⟩,⟨c,d⟩,⟨e,f⟩⟩:=t
 simp only [aY.v,aY.cells]
 refine callsIn_of_wp Tryz.func114 rfl hf ?_ hro
 simp only [Tryz.ntmps114,List.size_toArray,List.length_cons,List.length_nil,Nat.reduceAdd,Nat.reduceSub,Array.replicate_succ,Array.replicate_zero,List.push_toArray,List.append_toArray,List.nil_append,List.cons_append]
 gi_wp2
 go_ret
 exact ⟨rfl,rfl⟩
theorem vg (F:Fence) (n:Nat) (hf:F.fn 165) (hro:F.round=none) (hn:1≤n) (Bs n₀:Nat) (t:aY) (w:World) (hn₀:n₀≤w.heap.size) (hx:aB w Bs t.cells 38) :
  SeqStopsK F n Tryz.prog 165 #[.pointer (some ⟨Bs,0,none⟩)] (enc t) (Below n₀) (fun ys=>ys=upto 3 (Nat.le_refl _)) (fun _=>True) 3 w:=fun l J Jx W hW hJ _ hY hJ0=>by
 obtain ⟨⟨a,b⟩,⟨c,d⟩,⟨e,f⟩⟩:=t
 exact Iw F n hf hro hn l Bs n₀ a b c d e f J Jx _ hJ hY W (Nat.le_trans hn₀ hW.size) (fun o=>(hx.later hW).cell o) hJ0
attribute [local go_sem] Oper.semAt_some
theorem dG {W W':World} (h:Below W.heap.size W W'):KeepsOthers W W' :=
 ⟨h.size,fun k o hk _=>(h.block k (Array.getElem?_eq_some_iff.1 hk).1).trans hk⟩
theorem dQ {W W':World} {row:Option Nat} {b:Nat} {cs:Array Value} {T:TypeId} (h:aB W b cs T) (hg:W.grownBy W' row) (hr:∀ r,row=some r→∃ o:Obj,W.heap[r]? =some o∧o.isCells=false):aB W' b cs T:=by
 unfold aB at *
 rw [hg.block b (Array.getElem?_eq_some_iff.1 h).1 ?_]
 ·exact h
 ·intro e
  obtain ⟨o,ho,hc⟩:=hr b e.symm
  rw [h] at ho
  cases ho
  cases hc
def iU (t:aY):Int:=if dP t.list=0 then (if t.list.all (fun f=>decide (0≤(fI f).1)) then 0 else 2) else 20
theorem aY.zL {w:World} {b:Nat} {t:aY} {T:TypeId} (h:aB w b t.cells T):jI w T (.slice (some ⟨b,0,none⟩) 3 3) t.list:=by
 refine ⟨some ⟨b,0,none⟩,3,rfl,Nat.le_refl _,by omega,(fun h=>by cases h),fun ad h'=>?_⟩
 cases h'
 refine ⟨rfl,t.cells,h,fun i hi=>?_⟩
 have:i<3:=hi
 have hc:i=0∨i=1∨i=2:=by omega
 rcases hc with rfl|rfl|rfl<;>exact ⟨rfl,rfl⟩
theorem gD (t:aY) (w:World):Calls Tryz.prog 51 #[t.v] w fun e w'=>e= .returned (.int .i64 (iU t))∧Below w.heap.size w w':=by
 have wD:Hid (∀ W b,aB W b t.cells 38→Calls Tryz.prog 113 #[.slice (some ⟨b,0,none⟩) 3 3] W (fun e w'=>e= .returned (.int .i64 (dP t.list))∧Below W.heap.size W w')):=zh fun W b h=>Gm (.slice (some ⟨b,0,none⟩) 3 3) t.list 38 W (aY.zL h)
 have HNU:Hid (∀ w,CallsIn Fence.wide 2 Tryz.prog 114 #[t.v] w fun e w'=>e= .returned (.func (.func 165) #[] #[.pointer (some ⟨w.heap.size,0,none⟩)])∧w'=w.alloc (.cells t.cells 38)):=zh (Ba Fence.wide 2 trivial rfl t)
 have EN:Hid (∀ x:Fin 3,∀ w,Calls Tryz.prog 83 #[(t.get x.1).v] w (fun e w'=>e= .returned (dJ.pair (fI (t.get x.1)))∧Below w.heap.size w w')):=zh fun x=>dJ.jX _
 unfold iU
 generalize PU:dP t.list=ck at *
 have hck:ck=0∨ck=20:=by rw [← PU];unfold dP;split<;>simp
 obtain ⟨z,Ez⟩:∃ y:Int,Hid ((if t.list.all (fun f=>decide (0≤(fI f).1)) then 0 else 2)=y):=⟨_,zh rfl⟩
 rw [Ez.out]
 refine (callsIn_wide (n:=3)).1 ?_
 refine callsIn_of_wp_marks Tryz.func51 rfl trivial ?_ rfl
 simp only [Tryz.ntmps51,List.size_toArray,List.length_cons,List.length_nil,Nat.reduceAdd,Nat.reduceSub,Array.replicate_succ,Array.replicate_zero,List.push_toArray,List.append_toArray,List.nil_append,List.cons_append]
 obtain ⟨⟨a,b⟩,⟨c,d⟩,⟨e,f⟩⟩:=t
 simp only [aY.v,aY.cells] at *
 obtain ⟨wa,QV⟩:∃ y:World,Hid ((w.alloc (.cells #[.string a,.string b,.string c,.string d,.string e,.string f] 38)).alloc (.cells #[.int .i64 0] 45)=y):=⟨_,zh rfl⟩
 have hba:aB wa w.heap.size #[.string a,.string b,.string c,.string d,.string e,.string f] 38:=by rw [← QV.out];exact aL
 have hbr:aB wa (w.heap.size+1) #[.int .i64 0] 45:=by rw [← QV.out];exact aL
 have hB1:Below w.heap.size w wa:=by rw [← QV.out];exact aA
 have HBA:=zh hba
 have HBR:=zh hbr
 have HB1:=zh hB1
 clear hba hbr hB1
 rcases hck with rfl|rfl
 ·rw [if_pos rfl]
  clear PU
  gi_wp2_with (refine ⟨trivial,?_⟩;gi_at_call 113;rw [QV.out];refine (callsIn_wide.2 (wD.out _ _ HBA.out)).mono ?_;rintro e w1 ⟨rfl,hc1⟩;have hb0:=HBA.out.later hc1;have c0:=hb0.cell;have hb1:=HBR.out.later hc1;have c1:=hb1.cell;have f1:=hb1.free)
  gi_wp2_with (refine ⟨trivial,?_⟩;gi_at_call 114;refine (HNU.out _).mono ?_;rintro e w' ⟨rfl,rfl⟩)
  have hB2:Below w.heap.size w w1:=HB1.out.trans (hc1.mono HB1.out.size)
  obtain ⟨w2,Qu⟩:∃ y:World,Hid (w1.alloc (.cells #[.string a,.string b,.string c,.string d,.string e,.string f] 38)=y):=⟨_,zh rfl⟩
  rw [Qu.out]
  have hbx:aB w2 w1.heap.size #[.string a,.string b,.string c,.string d,.string e,.string f] 38:=by rw [← Qu.out];exact aL
  have hb1':aB w2 (w.heap.size+1) #[.int .i64 0] 45:=by rw [← Qu.out];exact aL
  have hB0:Below w.heap.size w w2:=by rw [← Qu.out];exact hB2.alloc hB2.size _
  refine wpIn_rangeFunc_ownH (α:=Fin 3) rfl zo (gf:=165) (lb:=#[.pointer (some ⟨w1.heap.size,0,none⟩)]) rfl trivial (enters_of Tryz.func165 zk rfl)
   (vg Fence.wide 2 trivial rfl zo w1.heap.size w.heap.size ⟨⟨a,b⟩,⟨c,d⟩,⟨e,f⟩⟩ w2 hB0.size hbx) belowK_t (belowK_b hB0.size) (Below.refl _ _) (fun _=>rfl)
   (fun pre W=>(Hid (∀ x∈pre,decide (0≤(fI (aY.get ⟨⟨a,b⟩,⟨c,d⟩,⟨e,f⟩⟩ x.1)).1)=true)∧aB W (w.heap.size+1) #[.int .i64 0] 45)∧Below w.heap.size w W)
   (fun c' pre W=>(c'= .ret∧Hid (∃ x:Fin 3,decide (0≤(fI (aY.get ⟨⟨a,b⟩,⟨c,d⟩,⟨e,f⟩⟩ x.1)).1)=false)∧aB W (w.heap.size+1) #[.int .i64 2] 45)∧Below w.heap.size w W)
   (OwnFrom.and (Own.from (fun s A B row hs hg hr=>⟨hs.1,dQ hs.2 hg hr⟩) _) (ownFrom_below (Nat.le_refl _) hB0.size))
   (fun c=>OwnFrom.and (Own.from (fun s A B row hs hg hr=>⟨hs.1,hs.2.1,dQ hs.2.2 hg hr⟩) _) (ownFrom_below (Nat.le_refl _) hB0.size))
   ⟨⟨zh zi,hb1'⟩,hB0⟩ (fun x a' W=>∃ u15 u16 B,a'={ tmps:=#[Value.agg #[Value.string a,Value.string b,Value.string c,Value.string d,Value.string e,Value.string f],
        Value.pointer (some { block:=w.heap.size,off:=0 }),
        Value.pointer (some { block:=w.heap.size+1,off:=0 }),Value.int IntKind.i64 0,undef,.pointer (some ⟨B,0,none⟩),
        undef,undef,Value.slice (some { block:=w.heap.size,off:=0 }) 3 3,Value.int IntKind.i64 0,
        Value.int IntKind.i64 0,Value.bool false,undef,
        Value.agg
         #[Value.string a,Value.string b,Value.string c,Value.string d,Value.string e,Value.string f],
        .func (.func 165) #[] #[.pointer (some ⟨w1.heap.size,0,none⟩)],u15,u16,undef,undef,undef,undef,undef,undef,undef],defers:=[] }∧aB W B #[.string (aY.get ⟨⟨a,b⟩,⟨c,d⟩,⟨e,f⟩⟩ x.1).n,.string (aY.get ⟨⟨a,b⟩,⟨c,d⟩,⟨e,f⟩⟩ x.1).d] 36) ?hAx ?assign ?body ?done ?stop
  case hAx =>
   intro x a'
   exact Own.from (fun s A B row hs hg hr=>by
    obtain ⟨u1,u2,B',h1,h2⟩:=hs
    exact ⟨u1,u2,B',h1,dQ h2 hg hr⟩) _
  case assign =>
   intro l pre x W K hI hK
   unfold enc Fr.v
   gi_wp2
   exact hK _ _ ((dG aA).from _) ((Below.refl _ W).alloc hI.2.size _) ⟨⟨hI.1.1,hI.1.2.later aA⟩,hI.2.alloc hI.2.size _⟩ ⟨_,_,_,rfl,aL⟩
  case body =>
   rintro l pre x a' W hl hr ⟨⟨hp,hb2⟩,hB⟩ ⟨u1,u2,B',rfl,hbB⟩ _
   have hsx:=EN.out x
   obtain ⟨y,Ey⟩:∃ y:Fr,Hid (aY.get ⟨⟨a,b⟩,⟨c,d⟩,⟨e,f⟩⟩ x.1=y):=⟨_,zh rfl⟩
   rw [Ey.out] at hbB hsx
   obtain ⟨s,t⟩:=y
   obtain ⟨q,Eq⟩:∃ q:Int × Int,Hid (fI ⟨s,t⟩=q):=⟨_,zh rfl⟩
   rw [Eq.out] at hsx
   obtain ⟨q1,q2⟩:=q
   unfold dJ.pair Fr.v at hsx
   dsimp only at hsx hbB
   have HSX:=zh hsx
   clear hsx
   have c3:=hbB.cell
   by_cases hq:q1<0
   ·have HQ:=zh hq
    have b1:decide (q1<0)=true:=decide_eq_true hq
    clear hq
    gi_wp2_with (refine ⟨trivial,?_⟩;gi_at_call 83;refine (CallsIn.inRound l (callsIn_wide.2 (HSX.out _))).mono ?_;rintro e w1 ⟨rfl,hc1⟩;have hb3:=hb2.later hc1;have c2:=hb3.cell;have f2:=hb3.free)
    refine ⟨(((dG hc1).trans (KeepsOthers.setCell _ _ _)).from _),⟨⟨rfl,zh ⟨x,?_⟩,hb3.set 0 _⟩,(hB.trans (hc1.mono hB.size)).setCell zi _⟩⟩
    rw [Ey.out,Eq.out]
    simpa using HQ.out
   ·have HQ:=zh hq
    have b1:decide (q1<0)=false:=decide_eq_false hq
    clear hq
    gi_wp2_with (refine ⟨trivial,?_⟩;gi_at_call 83;refine (CallsIn.inRound l (callsIn_wide.2 (HSX.out _))).mono ?_;rintro e w1 ⟨rfl,hc1⟩;have hb3:=hb2.later hc1)
    refine ⟨(dG hc1).from _,hc1.mono hB.size,⟨⟨zh fun y hy=>?_,hb3⟩,hB.trans (hc1.mono hB.size)⟩⟩
    rcases List.mem_append.1 hy with h|h
    ·exact hp.out y h
    ·rw [List.mem_singleton] at h
     subst h
     rw [Ey.out,Eq.out]
     have:=HQ.out
     simp
     omega
  case done =>
   rintro D ys W hD rfl ⟨⟨hp,hb1⟩,hB⟩ hK
   have c1:=hb1.cell
   have f1:=hb1.free
   have hz:z=0:=by
    rw [← Ez.out,if_pos]
    rw [List.all_eq_true]
    intro r hr
    have h0:=hp.out ⟨0,by omega⟩ (by unfold upto;rw [List.mem_ofFn];exact ⟨⟨0,by omega⟩,rfl⟩)
    have h1:=hp.out ⟨1,by omega⟩ (by unfold upto;rw [List.mem_ofFn];exact ⟨⟨1,by omega⟩,rfl⟩)
    have h2:=hp.out ⟨2,by omega⟩ (by unfold upto;rw [List.mem_ofFn];exact ⟨⟨2,by omega⟩,rfl⟩)
    simp only [aY.list,List.mem_cons,List.not_mem_nil,or_false] at hr
    rcases hr with rfl|rfl|rfl
    ·exact h0
    ·exact h1
    ·exact h2
   have HZ:=zh hz
   clear hz
   gi_wp2
   have hb2:=hb1.set 0 (.int .i64 0)
   have hK':=(KeepsOthers.setCell W ⟨w.heap.size+1,0,none⟩ (.int .i64 0)).same D _ hK rfl
   refine ⟨by simp,.inl ⟨_,_,rfl,run_takeDeferred hK',?_⟩⟩
   have hb3:=dQ hb2 (grownBy_putObj' _ D (.deferred none)) (fun r e=>by cases e;exact ⟨_,hK',rfl⟩)
   have kZ:=hb3.cell 0
   refine ⟨.int .i64 0,?_,by rw [HZ.out],(hB.setCell (p:=⟨w.heap.size+1,0,none⟩) zi _).trans (belowK_b (w:=w) (Nat.le_refl _) _ D _ _ (by have:=hB0.size;omega) hK' rfl rfl)⟩
   simp [results,Tryz.f51,go_sem,kZ]
  case stop =>
   rintro D c' pre W hD hpre ⟨⟨rfl,hin,hb1⟩,hB⟩ hK
   have hz:z=2:=by
    rw [← Ez.out,if_neg]
    intro h
    obtain ⟨x,hx⟩:=hin.out
    rw [List.all_eq_true] at h
    have hx3:x.1=0∨x.1=1∨x.1=2:=by omega
    have:=h (aY.get ⟨⟨a,b⟩,⟨c,d⟩,⟨e,f⟩⟩ x.1) (by rcases hx3 with e|e|e<;>rw [e]<;>simp [aY.list,aY.get])
    rw [this] at hx
    cases hx
   have HZ:=zh hz
   clear hz
   gi_wp2
   refine ⟨by simp,.inl ⟨_,_,rfl,run_takeDeferred hK,?_⟩⟩
   have hb3:=dQ hb1 (grownBy_putObj' _ D (.deferred none)) (fun r e=>by cases e;exact ⟨_,hK,rfl⟩)
   have kZ:=hb3.cell 0
   refine ⟨.int .i64 2,?_,by rw [HZ.out],hB.trans (belowK_b (w:=w) (Nat.le_refl _) W D _ _ (by have:=hB0.size;omega) hK rfl rfl)⟩
   simp [results,Tryz.f51,go_sem,kZ]
 ·rw [if_neg zd]
  clear PU
  gi_wp2_with (refine ⟨trivial,?_⟩;gi_at_call 113;rw [QV.out];refine (callsIn_wide.2 (wD.out _ _ HBA.out)).mono ?_;rintro e w1 ⟨rfl,hc1⟩;have hb0:=HBA.out.later hc1;have c0:=hb0.cell;have hb1:=HBR.out.later hc1;have c1:=hb1.cell;have f1:=hb1.free)
  have c5:=(hb1.set 0 (.int .i64 20)).cell 0
  refine ⟨.int .i64 20,?_,rfl,(HB1.out.trans (hc1.mono HB1.out.size)).setCell zi _⟩
  simp [results,Tryz.f51,go_sem,c5]
attribute [local go_sem] Oper.semAt_some
def jG (t:aY):Int:=if iU t=0 then (if t.list.all (fun f=>decide ((fI f).1≠0)) then 0 else 2) else iU t
theorem tN (t:aY) (w:World):Calls Tryz.prog 80 #[t.v] w fun e w'=>e= .returned (.int .i64 (jG t))∧Below w.heap.size w w':=by
 have wD:Hid (∀ W,Calls Tryz.prog 51 #[t.v] W (fun e w'=>e= .returned (.int .i64 (iU t))∧Below W.heap.size W w')):=zh fun W=>gD t W
 have HNU:Hid (∀ w,CallsIn Fence.wide 2 Tryz.prog 114 #[t.v] w fun e w'=>e= .returned (.func (.func 165) #[] #[.pointer (some ⟨w.heap.size,0,none⟩)])∧w'=w.alloc (.cells t.cells 38)):=zh (Ba Fence.wide 2 trivial rfl t)
 have EN:Hid (∀ x:Fin 3,∀ w,Calls Tryz.prog 83 #[(t.get x.1).v] w (fun e w'=>e= .returned (dJ.pair (fI (t.get x.1)))∧Below w.heap.size w w')):=zh fun x=>dJ.jX _
 unfold jG
 generalize PU:iU t=ck at *
 have hck:ck=0∨ck≠0:=by omega
 obtain ⟨z,Ez⟩:∃ y:Int,Hid ((if t.list.all (fun f=>decide ((fI f).1≠0)) then 0 else 2)=y):=⟨_,zh rfl⟩
 rw [Ez.out]
 refine (callsIn_wide (n:=3)).1 ?_
 refine callsIn_of_wp_marks Tryz.func80 rfl trivial ?_ rfl
 simp only [Tryz.ntmps80,List.size_toArray,List.length_cons,List.length_nil,Nat.reduceAdd,Nat.reduceSub,Array.replicate_succ,Array.replicate_zero,List.push_toArray,List.append_toArray,List.nil_append,List.cons_append]
 obtain ⟨⟨a,b⟩,⟨c,d⟩,⟨e,f⟩⟩:=t
 simp only [aY.v,aY.cells] at *
 obtain ⟨wa,QV⟩:∃ y:World,Hid ((w.alloc (.cells #[.string a,.string b,.string c,.string d,.string e,.string f] 38)).alloc (.cells #[.int .i64 0] 45)=y):=⟨_,zh rfl⟩
 have hba:aB wa w.heap.size #[.string a,.string b,.string c,.string d,.string e,.string f] 38:=by rw [← QV.out];exact aL
 have hbr:aB wa (w.heap.size+1) #[.int .i64 0] 45:=by rw [← QV.out];exact aL
 have hB1:Below w.heap.size w wa:=by rw [← QV.out];exact aA
 have HBA:=zh hba
 have c00:=hba.cell
 rw [← QV.out] at c00
 have HBR:=zh hbr
 have HB1:=zh hB1
 clear hba hbr hB1
 rcases hck with rfl|hck
 ·rw [if_pos rfl]
  clear PU
  gi_wp2_with (refine ⟨trivial,?_⟩;gi_at_call 51;rw [QV.out];refine (callsIn_wide.2 (wD.out _)).mono ?_;rintro e w1 ⟨rfl,hc1⟩;have hb0:=HBA.out.later hc1;have c0:=hb0.cell;have hb1:=HBR.out.later hc1;have c1:=hb1.cell;have f1:=hb1.free)
  gi_wp2_with (refine ⟨trivial,?_⟩;gi_at_call 114;refine (HNU.out _).mono ?_;rintro e w' ⟨rfl,rfl⟩)
  have hB2:Below w.heap.size w w1:=HB1.out.trans (hc1.mono HB1.out.size)
  obtain ⟨w2,Qu⟩:∃ y:World,Hid (w1.alloc (.cells #[.string a,.string b,.string c,.string d,.string e,.string f] 38)=y):=⟨_,zh rfl⟩
  rw [Qu.out]
  have hbx:aB w2 w1.heap.size #[.string a,.string b,.string c,.string d,.string e,.string f] 38:=by rw [← Qu.out];exact aL
  have hb1':aB w2 (w.heap.size+1) #[.int .i64 0] 45:=by rw [← Qu.out];exact aL
  have hB0:Below w.heap.size w w2:=by rw [← Qu.out];exact hB2.alloc hB2.size _
  refine wpIn_rangeFunc_ownH (α:=Fin 3) rfl zo (gf:=165) (lb:=#[.pointer (some ⟨w1.heap.size,0,none⟩)]) rfl trivial (enters_of Tryz.func165 zk rfl)
   (vg Fence.wide 2 trivial rfl zo w1.heap.size w.heap.size ⟨⟨a,b⟩,⟨c,d⟩,⟨e,f⟩⟩ w2 hB0.size hbx) belowK_t (belowK_b hB0.size) (Below.refl _ _) (fun _=>rfl)
   (fun pre W=>(Hid (∀ x∈pre,decide ((fI (aY.get ⟨⟨a,b⟩,⟨c,d⟩,⟨e,f⟩⟩ x.1)).1≠0)=true)∧aB W (w.heap.size+1) #[.int .i64 0] 45)∧Below w.heap.size w W)
   (fun c' pre W=>(c'= .ret∧Hid (∃ x:Fin 3,decide ((fI (aY.get ⟨⟨a,b⟩,⟨c,d⟩,⟨e,f⟩⟩ x.1)).1≠0)=false)∧aB W (w.heap.size+1) #[.int .i64 2] 45)∧Below w.heap.size w W)
   (OwnFrom.and (Own.from (fun s A B row hs hg hr=>⟨hs.1,dQ hs.2 hg hr⟩) _) (ownFrom_below (Nat.le_refl _) hB0.size))
   (fun c=>OwnFrom.and (Own.from (fun s A B row hs hg hr=>⟨hs.1,hs.2.1,dQ hs.2.2 hg hr⟩) _) (ownFrom_below (Nat.le_refl _) hB0.size))
   ⟨⟨zh zi,hb1'⟩,hB0⟩ (fun x a' W=>∃ u15 u16 B,a'={ tmps:=#[Value.agg #[Value.string a,Value.string b,Value.string c,Value.string d,Value.string e,Value.string f],
        Value.pointer (some { block:=w.heap.size,off:=0 }),
        Value.pointer (some { block:=w.heap.size+1,off:=0 }),Value.int IntKind.i64 0,undef,.pointer (some ⟨B,0,none⟩),
        undef,undef,Value.agg #[Value.string a,Value.string b,Value.string c,Value.string d,Value.string e,Value.string f],Value.int IntKind.i64 0,
        Value.int IntKind.i64 0,Value.bool false,undef,
        Value.agg
         #[Value.string a,Value.string b,Value.string c,Value.string d,Value.string e,Value.string f],
        .func (.func 165) #[] #[.pointer (some ⟨w1.heap.size,0,none⟩)],u15,u16,undef,undef,undef,undef,undef,undef,undef],defers:=[] }∧aB W B #[.string (aY.get ⟨⟨a,b⟩,⟨c,d⟩,⟨e,f⟩⟩ x.1).n,.string (aY.get ⟨⟨a,b⟩,⟨c,d⟩,⟨e,f⟩⟩ x.1).d] 36) ?hAx ?assign ?body ?done ?stop
  case hAx =>
   intro x a'
   exact Own.from (fun s A B row hs hg hr=>by
    obtain ⟨u1,u2,B',h1,h2⟩:=hs
    exact ⟨u1,u2,B',h1,dQ h2 hg hr⟩) _
  case assign =>
   intro l pre x W K hI hK
   unfold enc Fr.v
   gi_wp2
   exact hK _ _ ((dG aA).from _) ((Below.refl _ W).alloc hI.2.size _) ⟨⟨hI.1.1,hI.1.2.later aA⟩,hI.2.alloc hI.2.size _⟩ ⟨_,_,_,rfl,aL⟩
  case body =>
   rintro l pre x a' W hl hr ⟨⟨hp,hb2⟩,hB⟩ ⟨u1,u2,B',rfl,hbB⟩ _
   have hsx:=EN.out x
   obtain ⟨y,Ey⟩:∃ y:Fr,Hid (aY.get ⟨⟨a,b⟩,⟨c,d⟩,⟨e,f⟩⟩ x.1=y):=⟨_,zh rfl⟩
   rw [Ey.out] at hbB hsx
   obtain ⟨s,t⟩:=y
   obtain ⟨q,Eq⟩:∃ q:Int × Int,Hid (fI ⟨s,t⟩=q):=⟨_,zh rfl⟩
   rw [Eq.out] at hsx
   obtain ⟨q1,q2⟩:=q
   unfold dJ.pair Fr.v at hsx
   dsimp only at hsx hbB
   have HSX:=zh hsx
   clear hsx
   have c3:=hbB.cell
   by_cases hq:q1=0
   ·have HQ:=zh hq
    have b1:(q1 == 0)=true:=by simpa using hq
    clear hq
    gi_wp2_with (refine ⟨trivial,?_⟩;gi_at_call 83;refine (CallsIn.inRound l (callsIn_wide.2 (HSX.out _))).mono ?_;rintro e w1 ⟨rfl,hc1⟩;have hb3:=hb2.later hc1;have c2:=hb3.cell;have f2:=hb3.free)
    refine ⟨(((dG hc1).trans (KeepsOthers.setCell _ _ _)).from _),⟨⟨rfl,zh ⟨x,?_⟩,hb3.set 0 _⟩,(hB.trans (hc1.mono hB.size)).setCell zi _⟩⟩
    rw [Ey.out,Eq.out]
    simpa using HQ.out
   ·have HQ:=zh hq
    have b1:(q1 == 0)=false:=by simpa using hq
    clear hq
    gi_wp2_with (refine ⟨trivial,?_⟩;gi_at_call 83;refine (CallsIn.inRound l (callsIn_wide.2 (HSX.out _))).mono ?_;rintro e w1 ⟨rfl,hc1⟩;have hb3:=hb2.later hc1)
    refine ⟨(dG hc1).from _,hc1.mono hB.size,⟨⟨zh fun y hy=>?_,hb3⟩,hB.trans (hc1.mono hB.size)⟩⟩
    rcases List.mem_append.1 hy with h|h
    ·exact hp.out y h
    ·rw [List.mem_singleton] at h
     subst h
     rw [Ey.out,Eq.out]
     simpa using HQ.out
  case done =>
   rintro D ys W hD rfl ⟨⟨hp,hb1⟩,hB⟩ hK
   have c1:=hb1.cell
   have f1:=hb1.free
   have hz:z=0:=by
    rw [← Ez.out,if_pos]
    rw [List.all_eq_true]
    intro r hr
    have h0:=hp.out ⟨0,by omega⟩ (by unfold upto;rw [List.mem_ofFn];exact ⟨⟨0,by omega⟩,rfl⟩)
    have h1:=hp.out ⟨1,by omega⟩ (by unfold upto;rw [List.mem_ofFn];exact ⟨⟨1,by omega⟩,rfl⟩)
    have h2:=hp.out ⟨2,by omega⟩ (by unfold upto;rw [List.mem_ofFn];exact ⟨⟨2,by omega⟩,rfl⟩)
    simp only [aY.list,List.mem_cons,List.not_mem_nil,or_false] at hr
    rcases hr with rfl|rfl|rfl
    ·exact h0
    ·exact h1
    ·exact h2
   have HZ:=zh hz
   clear hz
   gi_wp2
   have hb2:=hb1.set 0 (.int .i64 0)
   have hK':=(KeepsOthers.setCell W ⟨w.heap.size+1,0,none⟩ (.int .i64 0)).same D _ hK rfl
   refine ⟨by simp,.inl ⟨_,_,rfl,run_takeDeferred hK',?_⟩⟩
   have hb3:=dQ hb2 (grownBy_putObj' _ D (.deferred none)) (fun r e=>by cases e;exact ⟨_,hK',rfl⟩)
   have kZ:=hb3.cell 0
   refine ⟨.int .i64 0,?_,by rw [HZ.out],(hB.setCell (p:=⟨w.heap.size+1,0,none⟩) zi _).trans (belowK_b (w:=w) (Nat.le_refl _) _ D _ _ (by have:=hB0.size;omega) hK' rfl rfl)⟩
   simp [results,Tryz.f80,go_sem,kZ]
  case stop =>
   rintro D c' pre W hD hpre ⟨⟨rfl,hin,hb1⟩,hB⟩ hK
   have hz:z=2:=by
    rw [← Ez.out,if_neg]
    intro h
    obtain ⟨x,hx⟩:=hin.out
    rw [List.all_eq_true] at h
    have hx3:x.1=0∨x.1=1∨x.1=2:=by omega
    have:=h (aY.get ⟨⟨a,b⟩,⟨c,d⟩,⟨e,f⟩⟩ x.1) (by rcases hx3 with e|e|e<;>rw [e]<;>simp [aY.list,aY.get])
    rw [this] at hx
    cases hx
   have HZ:=zh hz
   clear hz
   gi_wp2
   refine ⟨by simp,.inl ⟨_,_,rfl,run_takeDeferred hK,?_⟩⟩
   have hb3:=dQ hb1 (grownBy_putObj' _ D (.deferred none)) (fun r e=>by cases e;exact ⟨_,hK,rfl⟩)
   have kZ:=hb3.cell 0
   refine ⟨.int .i64 2,?_,by rw [HZ.out],hB.trans (belowK_b (w:=w) (Nat.le_refl _) W D _ _ (by have:=hB0.size;omega) hK rfl rfl)⟩
   simp [results,Tryz.f80,go_sem,kZ]
 ·rw [if_neg hck]
  have b5:(ck != 0)=true:=by simpa using hck
  clear PU
  gi_wp2_with (refine ⟨trivial,?_⟩;gi_at_call 51;rw [QV.out];refine (callsIn_wide.2 (wD.out _)).mono ?_;rintro e w1 ⟨rfl,hc1⟩;have hb0:=HBA.out.later hc1;have c0:=hb0.cell;have hb1:=HBR.out.later hc1;have c1:=hb1.cell;have f1:=hb1.free)
  have c5:=(hb1.set 0 (.int .i64 ck)).cell 0
  refine ⟨.int .i64 ck,?_,rfl,(HB1.out.trans (hc1.mono HB1.out.size)).setCell zi _⟩
  simp [results,Tryz.f80,go_sem,c5]
end Go.Proofs.light
namespace Go.Proofs.adapt
open Go Go.RowKit Go.SW Go.Num Go.Mem Go.Proofs Go.Dec Go.dB
def thrown (er:Int):Ending:=.panicked [{ v:=.iface 130 (.agg #[.int .i64 er]),recovered:=false }]
theorem nL (w:World):Calls Tryz.prog 49 #[.int .i64 0] w (fun e w'=>e= .returned (.tuple #[])∧w'=w):=by
 go_enter Tryz.func49,Tryz.ntmps49
 go_wp2_with fail
 first|go_end0|refine bodyPost_ret (results_none rfl _ _ _) rfl ?_
 exact ⟨rfl,rfl⟩
theorem iG (er:Int) (h:er≠0) (w:World):Calls Tryz.prog 49 #[.int .i64 er] w (fun e w'=>e=thrown er∧w'=w):=by
 have b1:(er != 0)=true:=by simp [h]
 clear h
 go_enter Tryz.func49,Tryz.ntmps49
 go_wp2_with fail
 exact ⟨rfl,rfl,rfl⟩
def aU (w:World) (er:Int) (Rv:Value→World→Prop) (e:Ending) (w':World):Prop :=
 Below w.heap.size w w'∧((er=0∧∃ v,e= .returned v∧Rv v w')∨(er≠0∧e=thrown er))
theorem aU.no {w w':World} {er:Int} {Rv:Value→World→Prop} (hb:Below w.heap.size w w') (h:er≠0):aU w er Rv (thrown er) w':=⟨hb,.inr ⟨h,rfl⟩⟩
theorem aU.yes {w w':World} {Rv:Value→World→Prop} {v:Value} (hb:Below w.heap.size w w') (h:Rv v w'):aU w 0 Rv (.returned v) w':=⟨hb,.inl ⟨rfl,_,rfl,h⟩⟩
theorem qB (a:Fr) (w:World):Calls Tryz.prog 74 #[a.v,.int .i64 0] w (fun e w'=>e= .returned a.v∧Below w.heap.size w w'):=by
 obtain ⟨s,t⟩:=a
 unfold Fr.v
 go_enter Tryz.func74,Tryz.ntmps74
 go_wp2_with fail
 refine (nL _).mono ?_
 rintro e w1 ⟨rfl,rfl⟩
 go_wp2_with fail
 refine bP rfl rfl aL Tryz.underlying36 rfl zk ?_
 exact ⟨rfl,aA⟩
theorem uz (a:Fr) (er:Int) (h:er≠0) (w:World):Calls Tryz.prog 74 #[a.v,.int .i64 er] w (fun e w'=>e=thrown er∧Below w.heap.size w w'):=by
 obtain ⟨s,t⟩:=a
 unfold Fr.v
 have H:=zh h
 clear h
 go_enter Tryz.func74,Tryz.ntmps74
 go_wp2_with fail
 refine (iG er H.out _).mono ?_
 rintro e w1 ⟨rfl,rfl⟩
 exact ⟨rfl,rfl,aA⟩
theorem qA (a:Option Addr) (n c:Nat) (w:World):Calls Tryz.prog 37 #[.slice a n c,.int .i64 0] w (fun e w'=>e= .returned (.slice a n c)∧w'=w):=by
 go_enter Tryz.func37,Tryz.ntmps37
 go_wp2_with fail
 refine (nL _).mono ?_
 rintro e w1 ⟨rfl,rfl⟩
 go_wp2_with fail
 go_ret
 exact ⟨rfl,rfl⟩
theorem yt (a:Option Addr) (n c:Nat) (er:Int) (h:er≠0) (w:World):Calls Tryz.prog 37 #[.slice a n c,.int .i64 er] w (fun e w'=>e=thrown er∧w'=w):=by
 have H:=zh h
 clear h
 go_enter Tryz.func37,Tryz.ntmps37
 go_wp2_with fail
 refine (iG er H.out _).mono ?_
 rintro e w1 ⟨rfl,rfl⟩
 exact ⟨rfl,rfl,rfl⟩
theorem mK (z:Int) (w:World):Calls Tryz.prog 82 #[.int .i64 z,.int .i64 0] w (fun e w'=>e= .returned (.int .i64 z)∧w'=w):=by
 go_enter Tryz.func82,Tryz.ntmps82
 go_wp2_with fail
 refine (nL _).mono ?_
 rintro e w1 ⟨rfl,rfl⟩
 go_wp2_with fail
 go_ret
 exact ⟨rfl,rfl⟩
theorem Iy (a:Option Addr) (n c:Nat) (w:World):Calls Tryz.prog 52 #[.slice a n c,.int .i64 0] w (fun e w'=>e= .returned (.slice a n c)∧w'=w):=by
 go_enter Tryz.func52,Tryz.ntmps52
 go_wp2_with fail
 refine (nL _).mono ?_
 rintro e w1 ⟨rfl,rfl⟩
 go_wp2_with fail
 go_ret
 exact ⟨rfl,rfl⟩
theorem DJ (a:Option Addr) (n c:Nat) (er:Int) (h:er≠0) (w:World):Calls Tryz.prog 52 #[.slice a n c,.int .i64 er] w (fun e w'=>e=thrown er∧w'=w):=by
 have H:=zh h
 clear h
 go_enter Tryz.func52,Tryz.ntmps52
 go_wp2_with fail
 refine (iG er H.out _).mono ?_
 rintro e w1 ⟨rfl,rfl⟩
 exact ⟨rfl,rfl,rfl⟩
theorem yL (er:Int) (w:World):(Instr.typeAssert (.iface 130 (.agg #[.int .i64 er])) 20 130 true).run Tryz.prog w= .ok (.tuple #[.agg #[.int .i64 er],.bool true]) w:=by kernel_rfl
theorem qI {w:World} {b:Nat} {cs cs':Array Value} {T:TypeId} (h:aB w b cs T) (e:cs=cs'):aB w b cs' T:=e ▸ h
def caught (er:Int) (rec:Bool):FrameMode:=.panicking [{ v:=.iface 130 (.agg #[.int .i64 er]),recovered:=rec }]
theorem Ju (p q:Addr) (w:World) :
  CallsD Tryz.prog 79 #[.pointer (some p),.pointer (some q)] .returning w fun e u' w'=>e= .returned (.tuple #[])∧u'= .returning∧w'=w:=by
 refine callsD_of_wpS Tryz.func79 rfl fun c₀ cs hu=>?_
 simp only [Tryz.ntmps79,List.size_toArray,List.length_cons,List.length_nil,Nat.reduceAdd,Nat.reduceSub,Array.replicate_succ,Array.replicate_zero,List.push_toArray,List.append_toArray,List.nil_append,List.cons_append]
 refine wpS_seq (wpS_region ?_)
 generalize hQ:Exit.thenS _ _=Q
 simp [wpOpsS,go_sem,recoverD,hu]
 rw [← hQ]
 clear hQ
 refine wpS_of_wp ?_
 go_wp2_with fail
 cases c₀
 simp_all [bodyPostS,results,Tryz.results79]
theorem af5 (b c:Nat) (v:Value) (z er:Int) (w:World) (hb:aB w b #[v] 44) (hc:aB w c #[.int .i64 z] 45) :
  CallsD Tryz.prog 79 #[.pointer (some ⟨b,0,none⟩),.pointer (some ⟨c,0,none⟩)] (caught er false) w fun e u' w' =>
   e= .returned (.tuple #[])∧u'=caught er true∧aB w' b #[.slice none 0 0] 44∧aB w' c #[.int .i64 er] 45∧∀ w0:World,w0.heap.size≤b→w0.heap.size≤c→Below w0.heap.size w0 w→Below w0.heap.size w0 w':=by
 unfold caught
 refine callsD_of_wpS Tryz.func79 rfl fun c₀ cs hu=>?_
 simp only [Tryz.ntmps79,List.size_toArray,List.length_cons,List.length_nil,Nat.reduceAdd,Nat.reduceSub,Array.replicate_succ,Array.replicate_zero,List.push_toArray,List.append_toArray,List.nil_append,List.cons_append]
 refine wpS_seq (wpS_region ?_)
 generalize hQ:Exit.thenS _ _=Q
 simp [wpOpsS,go_sem,recoverD,hu]
 rw [← hQ]
 clear hQ
 refine wpS_of_wp ?_
 have cb:=hb.cell
 have fb:=hb.free
 have cc:=hc.cell
 have fc:=hc.free
 have lb:=hb.lt
 have lc:=hc.lt
 have hne:b≠c:=hb.ne hc zd
 have hne2:c≠b:=fun e=>hne e.symm
 have hta:=yL er
 obtain ⟨R,HR⟩:∃ R:Ending→FrameMode→World→Prop,Hid (R=fun e u' w'=>e= .returned (.tuple #[])∧u'= .panicking [{ v:=.iface 130 (.agg #[.int .i64 er]),recovered:=true }]∧aB w' b #[.slice none 0 0] 44∧aB w' c #[.int .i64 er] 45∧∀ w0:World,w0.heap.size≤b→w0.heap.size≤c→Below w0.heap.size w0 w→Below w0.heap.size w0 w'):=⟨_,zh rfl⟩
 rw [← HR.out]
 go_wp2_with fail
 simp only [bodyPostS]
 refine ⟨trivial,_,rfl,_,results_none rfl _ _ _,?_⟩
 rw [HR.out]
 refine ⟨rfl,rfl,?_,?_,fun w0 h1 h2 h3=>?_⟩
 ·apply qI
  ·exact aL
  ·simp only [List.setIfInBounds_toArray,List.set_cons_zero,List.set_cons_succ]
 ·apply qI
  ·exact aL
  ·simp only [List.setIfInBounds_toArray,List.set_cons_zero,List.set_cons_succ]
 ·exact aA
theorem Jv (p q:Addr) (w:World) :
  CallsD Tryz.prog 133 #[.pointer (some p),.pointer (some q)] .returning w fun e u' w'=>e= .returned (.tuple #[])∧u'= .returning∧w'=w:=by
 refine callsD_of_wpS Tryz.func133 rfl fun c₀ cs hu=>?_
 simp only [Tryz.ntmps133,List.size_toArray,List.length_cons,List.length_nil,Nat.reduceAdd,Nat.reduceSub,Array.replicate_succ,Array.replicate_zero,List.push_toArray,List.append_toArray,List.nil_append,List.cons_append]
 refine wpS_seq (wpS_region ?_)
 generalize hQ:Exit.thenS _ _=Q
 simp [wpOpsS,go_sem,recoverD,hu]
 rw [← hQ]
 clear hQ
 refine wpS_of_wp ?_
 go_wp2_with fail
 cases c₀
 simp_all [bodyPostS,results,Tryz.results133]
theorem af6 (b c:Nat) (s1 s2 s3 s4 s5 s6:ByteArray) (z er:Int) (w:World) (hb:aB w b #[.string s1,.string s2,.string s3,.string s4,.string s5,.string s6] 37) (hc:aB w c #[.int .i64 z] 45) :
  CallsD Tryz.prog 133 #[.pointer (some ⟨b,0,none⟩),.pointer (some ⟨c,0,none⟩)] (caught er false) w fun e u' w' =>
   e= .returned (.tuple #[])∧u'=caught er true∧aB w' b #[.string ⟨#[]⟩,.string ⟨#[]⟩,.string ⟨#[]⟩,.string ⟨#[]⟩,.string ⟨#[]⟩,.string ⟨#[]⟩] 37∧aB w' c #[.int .i64 er] 45∧∀ w0:World,w0.heap.size≤b→w0.heap.size≤c→Below w0.heap.size w0 w→Below w0.heap.size w0 w':=by
 unfold caught
 refine callsD_of_wpS Tryz.func133 rfl fun c₀ cs hu=>?_
 simp only [Tryz.ntmps133,List.size_toArray,List.length_cons,List.length_nil,Nat.reduceAdd,Nat.reduceSub,Array.replicate_succ,Array.replicate_zero,List.push_toArray,List.append_toArray,List.nil_append,List.cons_append]
 refine wpS_seq (wpS_region ?_)
 generalize hQ:Exit.thenS _ _=Q
 simp [wpOpsS,go_sem,recoverD,hu]
 rw [← hQ]
 clear hQ
 refine wpS_of_wp ?_
 have cb:=hb.cell
 have fb:=hb.free
 have cc:=hc.cell
 have fc:=hc.free
 have lb:=hb.lt
 have lc:=hc.lt
 have hne:b≠c:=hb.ne hc zd
 have hne2:c≠b:=fun e=>hne e.symm
 have hta:=yL er
 obtain ⟨R,HR⟩:∃ R:Ending→FrameMode→World→Prop,Hid (R=fun e u' w'=>e= .returned (.tuple #[])∧u'= .panicking [{ v:=.iface 130 (.agg #[.int .i64 er]),recovered:=true }]∧aB w' b #[.string ⟨#[]⟩,.string ⟨#[]⟩,.string ⟨#[]⟩,.string ⟨#[]⟩,.string ⟨#[]⟩,.string ⟨#[]⟩] 37∧aB w' c #[.int .i64 er] 45∧∀ w0:World,w0.heap.size≤b→w0.heap.size≤c→Below w0.heap.size w0 w→Below w0.heap.size w0 w'):=⟨_,zh rfl⟩
 rw [← HR.out]
 go_wp2_with fail
 simp only [bodyPostS]
 refine ⟨trivial,_,rfl,_,results_none rfl _ _ _,?_⟩
 rw [HR.out]
 refine ⟨rfl,rfl,?_,?_,fun w0 h1 h2 h3=>?_⟩
 ·apply qI
  ·exact aL
  ·simp only [List.setIfInBounds_toArray,List.set_cons_zero,List.set_cons_succ]
 ·apply qI
  ·exact aL
  ·simp only [List.setIfInBounds_toArray,List.set_cons_zero,List.set_cons_succ]
 ·exact aA
theorem Jt (p q:Addr) (w:World) :
  CallsD Tryz.prog 111 #[.pointer (some p),.pointer (some q)] .returning w fun e u' w'=>e= .returned (.tuple #[])∧u'= .returning∧w'=w:=by
 refine callsD_of_wpS Tryz.func111 rfl fun c₀ cs hu=>?_
 simp only [Tryz.ntmps111,List.size_toArray,List.length_cons,List.length_nil,Nat.reduceAdd,Nat.reduceSub,Array.replicate_succ,Array.replicate_zero,List.push_toArray,List.append_toArray,List.nil_append,List.cons_append]
 refine wpS_seq (wpS_region ?_)
 generalize hQ:Exit.thenS _ _=Q
 simp [wpOpsS,go_sem,recoverD,hu]
 rw [← hQ]
 clear hQ
 refine wpS_of_wp ?_
 go_wp2_with fail
 cases c₀
 simp_all [bodyPostS,results,Tryz.results111]
theorem af4 (b c:Nat) (s1 s2 s3 s4 s5 s6:ByteArray) (z er:Int) (w:World) (hb:aB w b #[.string s1,.string s2,.string s3,.string s4,.string s5,.string s6] 38) (hc:aB w c #[.int .i64 z] 45) :
  CallsD Tryz.prog 111 #[.pointer (some ⟨b,0,none⟩),.pointer (some ⟨c,0,none⟩)] (caught er false) w fun e u' w' =>
   e= .returned (.tuple #[])∧u'=caught er true∧aB w' b #[.string ⟨#[]⟩,.string ⟨#[]⟩,.string ⟨#[]⟩,.string ⟨#[]⟩,.string ⟨#[]⟩,.string ⟨#[]⟩] 38∧aB w' c #[.int .i64 er] 45∧∀ w0:World,w0.heap.size≤b→w0.heap.size≤c→Below w0.heap.size w0 w→Below w0.heap.size w0 w':=by
 unfold caught
 refine callsD_of_wpS Tryz.func111 rfl fun c₀ cs hu=>?_
 simp only [Tryz.ntmps111,List.size_toArray,List.length_cons,List.length_nil,Nat.reduceAdd,Nat.reduceSub,Array.replicate_succ,Array.replicate_zero,List.push_toArray,List.append_toArray,List.nil_append,List.cons_append]
 refine wpS_seq (wpS_region ?_)
 generalize hQ:Exit.thenS _ _=Q
 simp [wpOpsS,go_sem,recoverD,hu]
 rw [← hQ]
 clear hQ
 refine wpS_of_wp ?_
 have cb:=hb.cell
 have fb:=hb.free
 have cc:=hc.cell
 have fc:=hc.free
 have lb:=hb.lt
 have lc:=hc.lt
 have hne:b≠c:=hb.ne hc zd
 have hne2:c≠b:=fun e=>hne e.symm
 have hta:=yL er
 obtain ⟨R,HR⟩:∃ R:Ending→FrameMode→World→Prop,Hid (R=fun e u' w'=>e= .returned (.tuple #[])∧u'= .panicking [{ v:=.iface 130 (.agg #[.int .i64 er]),recovered:=true }]∧aB w' b #[.string ⟨#[]⟩,.string ⟨#[]⟩,.string ⟨#[]⟩,.string ⟨#[]⟩,.string ⟨#[]⟩,.string ⟨#[]⟩] 38∧aB w' c #[.int .i64 er] 45∧∀ w0:World,w0.heap.size≤b→w0.heap.size≤c→Below w0.heap.size w0 w→Below w0.heap.size w0 w'):=⟨_,zh rfl⟩
 rw [← HR.out]
 go_wp2_with fail
 simp only [bodyPostS]
 refine ⟨trivial,_,rfl,_,results_none rfl _ _ _,?_⟩
 rw [HR.out]
 refine ⟨rfl,rfl,?_,?_,fun w0 h1 h2 h3=>?_⟩
 ·apply qI
  ·exact aL
  ·simp only [List.setIfInBounds_toArray,List.set_cons_zero,List.set_cons_succ]
 ·apply qI
  ·exact aL
  ·simp only [List.setIfInBounds_toArray,List.set_cons_zero,List.set_cons_succ]
 ·exact aA
theorem fK {P:Program} {fn:Func} {w:World} {tmps:Array Value} {p q:Tmp} {ty XF:TypeId} {g g2:Nat} {x y:Value} (h:fn.results=#[.cell p ty,.cell q XF])
  (hp:tmps.getD p undef= .pointer (some ⟨g,0,none⟩)) (hq:tmps.getD q undef= .pointer (some ⟨g2,0,none⟩)) (h1:(loadVar ty ⟨g,0,none⟩).run P w= .ok x w) (h2:(loadVar XF ⟨g2,0,none⟩).run P w= .ok y w) :
  (results fn tmps).run P w= .ok (.tuple #[x,y]) w:=by
 have hp':tmps[p]?.getD undef= .pointer (some ⟨g,0,none⟩):=by simpa using hp
 have hq':tmps[q]?.getD undef= .pointer (some ⟨g2,0,none⟩):=by simpa using hq
 simp [results,h,hp',hq',asAddr,h1,h2]
theorem lN {w:World} {c:Nat} {z:Int} (h:aB w c #[.int .i64 z] 45):(loadVar 45 ⟨c,0,none⟩).run Tryz.prog w= .ok (.int .i64 z) w:=by
 have hc:=h.cell 0
 simp [go_sem,hc]
theorem IG {w:World} {b:Nat} {a:Option Addr} {n c:Nat} (h:aB w b #[.slice a n c] 44):(loadVar 44 ⟨b,0,none⟩).run Tryz.prog w= .ok (.slice a n c) w:=by
 have hc:=h.cell 0
 simp [go_sem,hc]
theorem Sg {w:World} {b:Nat} {s1 s2 s3 s4 s5 s6:ByteArray} (h:aB w b #[.string s1,.string s2,.string s3,.string s4,.string s5,.string s6] 37):(loadVar 37 ⟨b,0,none⟩).run Tryz.prog w= .ok (.agg #[.string s1,.string s2,.string s3,.string s4,.string s5,.string s6]) w :=
 run_loadVar_row w b 37 37 _ (0,0) _ h Tryz.underlying37 rfl zk
theorem Sc {w:World} {b:Nat} {s1 s2 s3 s4 s5 s6:ByteArray} (h:aB w b #[.string s1,.string s2,.string s3,.string s4,.string s5,.string s6] 38):(loadVar 38 ⟨b,0,none⟩).run Tryz.prog w= .ok (.agg #[.string s1,.string s2,.string s3,.string s4,.string s5,.string s6]) w :=
 run_loadVar_row w b 38 38 _ (0,0) _ h Tryz.underlying38 rfl zk
theorem bO.kept {l:List TypeId} {w w':World} {v:Value} {m:List (List Fr)} (h:bO w v m) (k:Keep l w w') (h1:56∉l) (h2:36∉l):bO w' v m:=by
 obtain ⟨rs,g1,g2,g3⟩:=h
 exact ⟨rs,dB.Row.kept g1 k h1,g2,fun i h h'=>jI.kept (g3 i h h') k h2⟩
theorem zq (f:FuncId) (caps:Array Value) (er:Int) (m:List (List Fr)) (w:World) (HC:∀ W,Below w.heap.size w W→Calls Tryz.prog f caps W (aU W er (fun v W'=>bO W' v m)))
  (hf:∀ args W,(callFunc f args).run Tryz.prog W= .ok (.enter f args) W) :
  Calls Tryz.prog 34 #[.func (.func f) #[] caps] w (aS w er m):=by
 have Nq:∀ (fn:Fn) (first cap:Array Value) (w:World),(Instr.makeFunc fn first cap).run Tryz.prog w= .ok (.func fn first cap) w:=fun _ _ _ _=>rfl
 have UE:=zh HC
 clear HC
 have hb0:Below w.heap.size w ((w.alloc (.cells #[.slice none 0 0] 44)).alloc (.cells #[.int .i64 0] 45)):=aA
 obtain ⟨w0,kF⟩:∃ y,(w.alloc (.cells #[.slice none 0 0] 44)).alloc (.cells #[.int .i64 0] 45)=y:=⟨_,rfl⟩
 have hx1:aB w0 w.heap.size #[.slice none 0 0] 44:=by rw [← kF];exact aL
 have hx2:aB w0 (w.heap.size+1) #[.int .i64 0] 45:=by rw [← kF];exact aL
 rw [kF] at hb0
 go_enter_defers Tryz.func34,Tryz.ntmps34
 go_wp2_with fail
 refine (UE.out _ hb0).mono ?_
 rintro e w1 ⟨hb1,⟨rfl,v,rfl,hv⟩|⟨h,rfl⟩⟩
 ·obtain ⟨rs,hR,hl,hF⟩:=id hv
  obtain ⟨a,cap,rfl, -⟩:=hR
  replace hx1:=hx1.later hb1
  replace hx2:=hx2.later hb1
  have c1:=hx1.cell
  have f1:=hx1.free
  have c2:=hx2.cell
  have f2:=hx2.free
  have HV:=zh hv
  have hx3:aB ((w1.setCell ⟨w.heap.size,0,none⟩ (.slice a rs.length cap)).setCell ⟨w.heap.size+1,0,none⟩ (.int .i64 0)) w.heap.size #[.slice a rs.length cap] 44:=(hx1.set 0 (.slice a rs.length cap)).setOther (a:=⟨w.heap.size+1,0,none⟩) (.int .i64 0) zi
  have hx4:aB ((w1.setCell ⟨w.heap.size,0,none⟩ (.slice a rs.length cap)).setCell ⟨w.heap.size+1,0,none⟩ (.int .i64 0)) (w.heap.size+1) #[.int .i64 0] 45:=(hx2.setOther (a:=⟨w.heap.size,0,none⟩) (.slice a rs.length cap) zi).set 0 (.int .i64 0)
  have hv2:=bO.kept hv ((Keep.setCell (o:=0) (u:=.slice a rs.length cap) hx1.uS).mono (m:=[44,45]) zi) zd zd
  have hv3:=bO.kept hv2 ((Keep.setCell (o:=0) (u:=.int .i64 0) (hx2.uS.setCell (a:=⟨w.heap.size,0,none⟩) (u:=.slice a rs.length cap))).mono (m:=[44,45]) zi) zd zd
  have HV:=zh hv3
  have hbw:=((Bt hb0 hb1).setCell (p:=⟨w.heap.size,0,none⟩) (Nat.le_refl _) (.slice a rs.length cap)).setCell (p:=⟨w.heap.size+1,0,none⟩) zi (.int .i64 0)
  rw [hl] at hx3 hx4 HV hbw
  clear hF hv hv2 hv3
  go_wp2_with fail
  refine leaves_cons (f:=79) (args:=#[.pointer (some ⟨w.heap.size,0,none⟩),.pointer (some ⟨w.heap.size+1,0,none⟩)]) zi (by simp [go_sem]) ?_
  refine (Ju _ _ _).mono ?_
  rintro e u' w'' ⟨rfl,rfl,rfl⟩
  exact ⟨_,fK rfl rfl rfl (IG hx3) (lN hx4),aS.yes hbw HV.out⟩
 ·replace hx1:=hx1.later hb1
  replace hx2:=hx2.later hb1
  change bodyPostD _ _ _ (Exit.panic [{ v:=.iface 130 (.agg #[.int .i64 er]),recovered:=false }]) _ _
  refine leaves_cons (f:=79) (args:=#[.pointer (some ⟨w.heap.size,0,none⟩),.pointer (some ⟨w.heap.size+1,0,none⟩)]) zi (by simp [go_sem]) ?_
  refine (af5 w.heap.size (w.heap.size+1) _ _ er _ hx1 hx2).mono ?_
  rintro e u' w'' ⟨rfl,rfl,hy1,hy2,hbb⟩
  exact ⟨_,fK rfl rfl rfl (IG hy1) (lN hy2),aS.no (hbb w (Nat.le_refl _) zo (Bt hb0 hb1)) h⟩
def qz:light.aY:=⟨Fr.no,Fr.no,Fr.no⟩
def fO (w:World) (er:Int) (t:light.aY) (e:Ending) (w':World):Prop:=Below w.heap.size w w'∧e= .returned (.tuple #[(if er=0 then t else qz).v,.int .i64 er])
theorem JE (f:FuncId) (caps:Array Value) (er:Int) (t:light.aY) (w:World) (HC:∀ W,Below w.heap.size w W→Calls Tryz.prog f caps W (aU W er (fun v W'=>v=t.v)))
  (hf:∀ args W,(callFunc f args).run Tryz.prog W= .ok (.enter f args) W) :
  Calls Tryz.prog 70 #[.func (.func f) #[] caps] w (fO w er t):=by
 have Nq:∀ (fn:Fn) (first cap:Array Value) (w:World),(Instr.makeFunc fn first cap).run Tryz.prog w= .ok (.func fn first cap) w:=fun _ _ _ _=>rfl
 obtain ⟨⟨a1,a2⟩,⟨a3,a4⟩,⟨a5,a6⟩⟩:=t
 have UE:=zh HC
 clear HC
 have hb0:Below w.heap.size w ((w.alloc (.cells #[.string ⟨#[]⟩,.string ⟨#[]⟩,.string ⟨#[]⟩,.string ⟨#[]⟩,.string ⟨#[]⟩,.string ⟨#[]⟩] 37)).alloc (.cells #[.int .i64 0] 45)):=aA
 obtain ⟨w0,kF⟩:∃ y,(w.alloc (.cells #[.string ⟨#[]⟩,.string ⟨#[]⟩,.string ⟨#[]⟩,.string ⟨#[]⟩,.string ⟨#[]⟩,.string ⟨#[]⟩] 37)).alloc (.cells #[.int .i64 0] 45)=y:=⟨_,rfl⟩
 have hx1:aB w0 w.heap.size #[.string ⟨#[]⟩,.string ⟨#[]⟩,.string ⟨#[]⟩,.string ⟨#[]⟩,.string ⟨#[]⟩,.string ⟨#[]⟩] 37:=by rw [← kF];exact aL
 have hx2:aB w0 (w.heap.size+1) #[.int .i64 0] 45:=by rw [← kF];exact aL
 rw [kF] at hb0
 go_enter_defers Tryz.func70,Tryz.ntmps70
 go_wp2_with fail
 refine (UE.out _ hb0).mono ?_
 rintro e w1 ⟨hb1,⟨rfl,v,rfl,rfl⟩|⟨h,rfl⟩⟩
 ·replace hx1:=hx1.later hb1
  replace hx2:=hx2.later hb1
  have c1:=hx1.cell
  have f1:=hx1.free
  have c2:=hx2.cell
  have f2:=hx2.free
  have hne:w.heap.size≠w.heap.size+1:=by omega
  have hx3:aB (((((((w1.setCell ⟨w.heap.size,0,none⟩ (.string a1)).setCell ⟨w.heap.size,1,none⟩ (.string a2)).setCell ⟨w.heap.size,2,none⟩ (.string a3)).setCell ⟨w.heap.size,3,none⟩ (.string a4)).setCell ⟨w.heap.size,4,none⟩ (.string a5)).setCell ⟨w.heap.size,5,none⟩ (.string a6)).setCell ⟨w.heap.size+1,0,none⟩ (.int .i64 0)) w.heap.size #[.string a1,.string a2,.string a3,.string a4,.string a5,.string a6] 37:=((((((hx1.set 0 _).set 1 _).set 2 _).set 3 _).set 4 _).set 5 _).setOther _ hne
  have hx4:aB (((((((w1.setCell ⟨w.heap.size,0,none⟩ (.string a1)).setCell ⟨w.heap.size,1,none⟩ (.string a2)).setCell ⟨w.heap.size,2,none⟩ (.string a3)).setCell ⟨w.heap.size,3,none⟩ (.string a4)).setCell ⟨w.heap.size,4,none⟩ (.string a5)).setCell ⟨w.heap.size,5,none⟩ (.string a6)).setCell ⟨w.heap.size+1,0,none⟩ (.int .i64 0)) (w.heap.size+1) #[.int .i64 0] 45:=((((((hx2.setOther _ hne.symm).setOther _ hne.symm).setOther _ hne.symm).setOther _ hne.symm).setOther _ hne.symm).setOther _ hne.symm).set 0 _
  have hbw:Below w.heap.size w (((((((w1.setCell ⟨w.heap.size,0,none⟩ (.string a1)).setCell ⟨w.heap.size,1,none⟩ (.string a2)).setCell ⟨w.heap.size,2,none⟩ (.string a3)).setCell ⟨w.heap.size,3,none⟩ (.string a4)).setCell ⟨w.heap.size,4,none⟩ (.string a5)).setCell ⟨w.heap.size,5,none⟩ (.string a6)).setCell ⟨w.heap.size+1,0,none⟩ (.int .i64 0)):=by
   have:=Bt hb0 hb1
   exact aA
  have QN:=zh hx3
  have HX4:=zh hx4
  have HBW:=zh hbw
  clear hx3 hx4 hbw kF hx1 hx2 hb0 hb1
  unfold light.aY.v light.aY.cells
  go_wp2_with fail
  refine leaves_cons (f:=133) (args:=#[.pointer (some ⟨w.heap.size,0,none⟩),.pointer (some ⟨w.heap.size+1,0,none⟩)]) zi (by simp [go_sem]) ?_
  refine (Jv _ _ _).mono ?_
  rintro e u' w'' ⟨rfl,rfl,rfl⟩
  exact ⟨_,fK rfl rfl rfl (Sg QN.out) (lN HX4.out),HBW.out,rfl⟩
 ·replace hx1:=hx1.later hb1
  replace hx2:=hx2.later hb1
  change bodyPostD _ _ _ (Exit.panic [{ v:=.iface 130 (.agg #[.int .i64 er]),recovered:=false }]) _ _
  refine leaves_cons (f:=133) (args:=#[.pointer (some ⟨w.heap.size,0,none⟩),.pointer (some ⟨w.heap.size+1,0,none⟩)]) zi (by simp [go_sem]) ?_
  refine (af6 w.heap.size (w.heap.size+1) _ _ _ _ _ _ _ er _ hx1 hx2).mono ?_
  rintro e u' w'' ⟨rfl,rfl,hy1,hy2,hbb⟩
  exact ⟨_,fK rfl rfl rfl (Sg hy1) (lN hy2),hbb w (Nat.le_refl _) zo (Bt hb0 hb1),by rw [if_neg h];rfl⟩
theorem JD (f:FuncId) (caps:Array Value) (er:Int) (t:light.aY) (w:World) (HC:∀ W,Below w.heap.size w W→Calls Tryz.prog f caps W (aU W er (fun v W'=>v=t.v)))
  (hf:∀ args W,(callFunc f args).run Tryz.prog W= .ok (.enter f args) W) :
  Calls Tryz.prog 47 #[.func (.func f) #[] caps] w (fO w er t):=by
 have Nq:∀ (fn:Fn) (first cap:Array Value) (w:World),(Instr.makeFunc fn first cap).run Tryz.prog w= .ok (.func fn first cap) w:=fun _ _ _ _=>rfl
 obtain ⟨⟨a1,a2⟩,⟨a3,a4⟩,⟨a5,a6⟩⟩:=t
 have UE:=zh HC
 clear HC
 have hb0:Below w.heap.size w ((w.alloc (.cells #[.string ⟨#[]⟩,.string ⟨#[]⟩,.string ⟨#[]⟩,.string ⟨#[]⟩,.string ⟨#[]⟩,.string ⟨#[]⟩] 38)).alloc (.cells #[.int .i64 0] 45)):=aA
 obtain ⟨w0,kF⟩:∃ y,(w.alloc (.cells #[.string ⟨#[]⟩,.string ⟨#[]⟩,.string ⟨#[]⟩,.string ⟨#[]⟩,.string ⟨#[]⟩,.string ⟨#[]⟩] 38)).alloc (.cells #[.int .i64 0] 45)=y:=⟨_,rfl⟩
 have hx1:aB w0 w.heap.size #[.string ⟨#[]⟩,.string ⟨#[]⟩,.string ⟨#[]⟩,.string ⟨#[]⟩,.string ⟨#[]⟩,.string ⟨#[]⟩] 38:=by rw [← kF];exact aL
 have hx2:aB w0 (w.heap.size+1) #[.int .i64 0] 45:=by rw [← kF];exact aL
 rw [kF] at hb0
 go_enter_defers Tryz.func47,Tryz.ntmps47
 go_wp2_with fail
 refine (UE.out _ hb0).mono ?_
 rintro e w1 ⟨hb1,⟨rfl,v,rfl,rfl⟩|⟨h,rfl⟩⟩
 ·replace hx1:=hx1.later hb1
  replace hx2:=hx2.later hb1
  have c1:=hx1.cell
  have f1:=hx1.free
  have c2:=hx2.cell
  have f2:=hx2.free
  have hne:w.heap.size≠w.heap.size+1:=by omega
  have hx3:aB (((((((w1.setCell ⟨w.heap.size,0,none⟩ (.string a1)).setCell ⟨w.heap.size,1,none⟩ (.string a2)).setCell ⟨w.heap.size,2,none⟩ (.string a3)).setCell ⟨w.heap.size,3,none⟩ (.string a4)).setCell ⟨w.heap.size,4,none⟩ (.string a5)).setCell ⟨w.heap.size,5,none⟩ (.string a6)).setCell ⟨w.heap.size+1,0,none⟩ (.int .i64 0)) w.heap.size #[.string a1,.string a2,.string a3,.string a4,.string a5,.string a6] 38:=((((((hx1.set 0 _).set 1 _).set 2 _).set 3 _).set 4 _).set 5 _).setOther _ hne
  have hx4:aB (((((((w1.setCell ⟨w.heap.size,0,none⟩ (.string a1)).setCell ⟨w.heap.size,1,none⟩ (.string a2)).setCell ⟨w.heap.size,2,none⟩ (.string a3)).setCell ⟨w.heap.size,3,none⟩ (.string a4)).setCell ⟨w.heap.size,4,none⟩ (.string a5)).setCell ⟨w.heap.size,5,none⟩ (.string a6)).setCell ⟨w.heap.size+1,0,none⟩ (.int .i64 0)) (w.heap.size+1) #[.int .i64 0] 45:=((((((hx2.setOther _ hne.symm).setOther _ hne.symm).setOther _ hne.symm).setOther _ hne.symm).setOther _ hne.symm).setOther _ hne.symm).set 0 _
  have hbw:Below w.heap.size w (((((((w1.setCell ⟨w.heap.size,0,none⟩ (.string a1)).setCell ⟨w.heap.size,1,none⟩ (.string a2)).setCell ⟨w.heap.size,2,none⟩ (.string a3)).setCell ⟨w.heap.size,3,none⟩ (.string a4)).setCell ⟨w.heap.size,4,none⟩ (.string a5)).setCell ⟨w.heap.size,5,none⟩ (.string a6)).setCell ⟨w.heap.size+1,0,none⟩ (.int .i64 0)):=by
   have:=Bt hb0 hb1
   exact aA
  have QN:=zh hx3
  have HX4:=zh hx4
  have HBW:=zh hbw
  clear hx3 hx4 hbw kF hx1 hx2 hb0 hb1
  unfold light.aY.v light.aY.cells
  go_wp2_with fail
  refine leaves_cons (f:=111) (args:=#[.pointer (some ⟨w.heap.size,0,none⟩),.pointer (some ⟨w.heap.size+1,0,none⟩)]) zi (by simp [go_sem]) ?_
  refine (Jt _ _ _).mono ?_
  rintro e u' w'' ⟨rfl,rfl,rfl⟩
  exact ⟨_,fK rfl rfl rfl (Sc QN.out) (lN HX4.out),HBW.out,rfl⟩
 ·replace hx1:=hx1.later hb1
  replace hx2:=hx2.later hb1
  change bodyPostD _ _ _ (Exit.panic [{ v:=.iface 130 (.agg #[.int .i64 er]),recovered:=false }]) _ _
  refine leaves_cons (f:=111) (args:=#[.pointer (some ⟨w.heap.size,0,none⟩),.pointer (some ⟨w.heap.size+1,0,none⟩)]) zi (by simp [go_sem]) ?_
  refine (af4 w.heap.size (w.heap.size+1) _ _ _ _ _ _ _ er _ hx1 hx2).mono ?_
  rintro e u' w'' ⟨rfl,rfl,hy1,hy2,hbb⟩
  exact ⟨_,fK rfl rfl rfl (Sc hy1) (lN hy2),hbb w (Nat.le_refl _) zo (Bt hb0 hb1),by rw [if_neg h];rfl⟩
def lW:List Int:=[100000,0,0,0,100000,0,0,0,100000,40024,70760, -8081, -22630,116532,4570,0,0,91822,89510,26640, -16140, -75020,171350,3670,3890, -6850,102960,89500,26640, -16140, -75020,171350,3670,3890, -6850,102960]
def kU (w : World) : Prop := Lib.TabIs Tryz.prog w "verdigris/adapt.cones" .i64 lW
theorem kU.later {w w':World} (h:kU w) (hb:Below w.heap.size w w'):kU w':=Lib.tabBelow_of_tabIs h w' hb
theorem kU.cell {w:World} (h:kU w) {k:Nat} (hk:k<36):w.cell? ⟨0,k,none⟩=some (.int .i64 (lW.getD k 0)):=by
 exact Lib.TabIs.cell h zk k hk
def kS (m i j:Nat):Rat:=((lW.getD (m*9+i*3+j) 0:Int):Rat) / ((100000:Int):Rat)
theorem Jk:∀ m,m<4→∀ i,i<3→∀ j,j<3→dA (kS m i j)=true:=by decide+kernel
def bg (m:Nat):matrix.RM:=(List.range 3).map fun i=>(List.range 3).map (kS m i)
theorem xD:∀ k,k<36→ -1000000≤lW.getD k 0∧lW.getD k 0≤1000000:=by decide+kernel
theorem T9 (bk m:Nat) (hm:m<4) (w:World) (hk:aB w bk #[.int .i64 ((m:Int)+1)] 3) (ht:pR.Pow w) (hc:kU w) :
  Calls Tryz.prog 73 #[.pointer (some ⟨bk,0,none⟩)] w (aU w 0 (fun v w'=>bO w' v (bg m).fr)):=by
 obtain ⟨P9,Bv,hmk⟩:=matrix.wQ 3 zo
 obtain ⟨G6,IY,Nq⟩:=matrix.wR 3 zo
 replace hmk:∀ W:World,(Instr.makeSlice 44 (.int .i64 3) (.int .i64 3)).run Tryz.prog W= .ok (.slice (some ⟨W.heap.size,0,none⟩) 3 3) (W.alloc (.cells P9 56)):=hmk
 replace Nq:∀ W:World,(Instr.makeSlice 56 (.int .i64 3) (.int .i64 3)).run Tryz.prog W= .ok (.slice (some ⟨W.heap.size,0,none⟩) 3 3) (W.alloc (.cells G6 36)):=Nq
 have MH:=zh Bv
 have HCF:=zh IY
 have HT:=zh ht
 have HC:=zh hc
 have HK:=zh hk
 have lk:=hk.lt
 have l0:0<w.heap.size:=by
  have:=hc.cell (k:=0) zo
  rcases Nat.lt_or_ge 0 w.heap.size with h|h
  ·exact h
  ·unfold World.cell? at this
   simp only [Array.getElem?_eq_none h] at this
   cases this
 obtain ⟨E,EE⟩:∃ E:Nat→Nat→Rat,Hid (kS m=E):=⟨_,zh rfl⟩
 clear Bv IY ht hc hk
 have hM0:=aB.new w P9 56
 have HM:=zh (matrix.gB.xY (f:=fun i=>((List.range 3).map (E i)).map Fr.of) hM0 MH.out)
 have Yg:Below w.heap.size w (w.alloc (.cells P9 56)):=aA
 clear hM0
 go_enter Tryz.func73,Tryz.ntmps73
 go_wp2_with fail
 go_loopw [6] (fun iv wr=>∃ r:Nat,iv= .int .i64 (r:Int)∧r≤3∧Hid (gB wr w.heap.size 3 r (fun i=>((List.range 3).map (E i)).map Fr.of))∧Below w.heap.size w wr) (fun iv _=>3 - (intOf iv).toNat)
 case atStart=>exact ⟨0,rfl,by omega,HM,Yg⟩
 case round =>
  clear HM Yg
  obtain ⟨r,rfl,hr,HM,hb⟩:=hrel
  obtain ⟨wo,hwo⟩:∃ y,y=wr:=⟨_,rfl⟩
  subst hwo
  have lM:=HM.out.lt
  rcases Nat.lt_or_ge r 3 with hlt|hge
  ·have hlt2:(r:Int)<3:=by omega
   obtain ⟨⟨y1,GY⟩,fy⟩:=HM.out.cell hlt
   obtain ⟨qK,bM,hsz, -⟩:=HM.out
   have Qs:=zh bM
   have hrs:r<qK.size:=by omega
   clear bM hsz
   go_wp2_with fail
   clear GY fy
   have hGM:wo.heap.size≠w.heap.size:=by omega
   have PW:w.heap.size≠wo.heap.size:=by omega
   have Ye:aB ((wo.setCell ⟨w.heap.size,r,none⟩ (.slice (some ⟨wo.heap.size,0,none⟩) 3 3)).alloc (.cells G6 36 (0,0))) wo.heap.size G6 36:=aB.pW zi
   have HF:=zh (show Fill _ wo.heap.size 36 3 0 (xR fun i=>Fr.of (E r i)) from ⟨G6,Ye,HCF.out,fun i hi=>by omega⟩)
   have HB:=zh ((Qs.out.set r (.slice (some ⟨wo.heap.size,0,none⟩) 3 3)).alloc (.cells G6 36 (0,0)))
   have HN:=zh (((gY.refl wo w.heap.size).set r (.slice (some ⟨wo.heap.size,0,none⟩) 3 3)).below (w':=(wo.setCell ⟨w.heap.size,r,none⟩ (.slice (some ⟨wo.heap.size,0,none⟩) 3 3)).alloc (.cells G6 36 (0,0))) aA)
   clear Ye
   go_loopw [13] (fun iv wr=>∃ c:Nat,iv= .int .i64 (c:Int)∧c≤3∧Hid (Fill wr wo.heap.size 36 3 c (xR fun i=>Fr.of (E r i)))∧Hid (aB wr w.heap.size (qK.setIfInBounds r (.slice (some ⟨wo.heap.size,0,none⟩) 3 3)) 56)∧Hid (gY wo wr w.heap.size)) (fun iv _=>3 - (intOf iv).toNat)
   case atStart=>exact ⟨0,rfl,by omega,HF,HB,HN⟩
   case round =>
    clear HF HB HN
    obtain ⟨c,rfl,hcn,HF,HB,HN⟩:=hrel
    rcases Nat.lt_or_ge c 3 with hcl|hcl
    ·have PO:(c:Int)<3:=by omega
     have hbv:Below w.heap.size w wr:=HN.out.toBelow hb (Nat.le_refl _)
     have ar6:m*9+r*3+c<36:=by omega
     have cg:=(HC.out.later hbv).cell ar6
     have ck:=(HK.out.later hbv).cell
     have lkr:=Nat.lt_of_lt_of_le lk hbv.size
     have l0r:=Nat.lt_of_lt_of_le l0 hbv.size
     have cM:=HB.out.cell r
     rw [Array.getElem?_setIfInBounds,if_pos rfl,if_pos hrs] at cM
     have lMr:=HB.out.lt
     have hok:=Jk m hm r hlt c hcl
     have hqe:kS m r c=E r c:=by rw [EE.out]
     have V6:kS m r c=((lW.getD (m*9+r*3+c) 0:Int):Rat) / ((100000:Int):Rat):=rfl
     have hsm:=xD _ ar6
     rw [hqe] at hok V6
     generalize lW.getD (m*9+r*3+c) 0=z at *
     obtain ⟨q,EQ⟩:∃ x:Rat,Hid (E r c=x):=⟨_,zh rfl⟩
     rw [EQ.out] at hok V6
     have Qo:Hid (Fr.res (zY z 100000)= .tuple #[.agg #[.string (Fr.of q).n,.string (Fr.of q).d],.int .i64 0]):=zh (by
      unfold zY dB.wr
      rw [if_neg zd,← V6,if_pos hok]
      rfl)
     obtain ⟨s1,Oz⟩:∃ x:ByteArray,Hid ((Fr.of q).n=x):=⟨_,zh rfl⟩
     obtain ⟨s2,Oy⟩:∃ x:ByteArray,Hid ((Fr.of q).d=x):=⟨_,zh rfl⟩
     rw [Oz.out,Oy.out] at Qo
     have Xo:=zh (HT.out.later hbv)
     have HS1:=zh hsm.1
     have HS2:=zh hsm.2
     have lG:=HF.out.lt
     have hm2:(m:Int)<4:=by omega
     have hwm:IntKind.i64.wrap (m:Int)=(m:Int):=by rw [IntKind.wrap_i64];omega
     clear hok hqe V6 hsm
     go_wp2_with fail
     refine aC [(.pure,0),(.pure,1),(.pure,2),(.read,3),(.pure,4),(.read,5),(.pure,6),(.pure,7),(.pure,8),(.pure,9),(.pure,10),(.pure,11),(.read,12),(.ext,13),(.pure,14),(.pure,15),(.ext,16),(.pure,17),(.fin,18)] zk zk zR zP ?_
     repeat (first|(refine ah rfl rfl fun J h=>?_;go_simp;refine h _ ?_;clear h J)|(refine au rfl rfl rfl rfl fun J h=>?_;go_simp;refine h _ ?_;clear h J;try go_simp))
     refine aD rfl rfl (fun w2 hb2 J hJ=>?_);go_simp
     have hb2':Below wr.heap.size wr w2:=aA
     refine ((dJ.vC z 100000 (by have:=HS1.out;omega) (by have:=HS2.out;omega) zo zo w2 (Xo.out.later hb2')).mono (by rw [Qo.out];exact fun _ _ h=>h)).mono ?_
     rintro e w3 ⟨rfl,hb3⟩
     refine hJ _ _ hb3 ?_
     clear hJ J
     repeat (first|(refine ah rfl rfl fun J h=>?_;go_simp;refine h _ ?_;clear h J)|(refine au rfl rfl rfl rfl fun J h=>?_;go_simp;refine h _ ?_;clear h J;try go_simp))
     refine aD rfl rfl (fun w4 hb4 J hJ=>?_);go_simp
     refine (qB ⟨s1,s2⟩ w4).mono ?_
     unfold Fr.v
     rintro e w5 ⟨rfl,hb5⟩
     refine hJ _ _ hb5 ?_
     clear hJ J
     repeat (first|(refine ah rfl rfl fun J h=>?_;go_simp;refine h _ ?_;clear h J)|(refine au rfl rfl rfl rfl fun J h=>?_;go_simp;refine h _ ?_;clear h J;try go_simp))
     refine aJ [_] rfl (fun w6 hb6=>?_)
     have hx6:Below wr.heap.size wr w6:=aA
     replace HF:=zh (HF.out.yA hx6)
     replace HB:=zh (HB.out.later hx6)
     replace HN:=zh (HN.out.below hx6)
     obtain ⟨⟨y1,GY⟩,⟨y2,Yl⟩,fy⟩:=HF.out.cells hcl
     have lG6:=HF.out.lt
     clear hb6 hx6 cM lMr cg ck
     go_wp2_with fail
     go_roundw
     case rel =>
      refine ⟨c+1,by go_num,by omega,zh (HF.out.step hcl (fun _ _ _ h=>h) ⟨?_,?_⟩),zh ((HB.out.setOther _ PW).setOther _ PW),zh ((HN.out.gT (Nat.le_refl _) _ _).gT (Nat.le_refl _) _ _)⟩
      ·show Value.string s1= .string (Fr.of (E r c)).n
       rw [EQ.out,Oz.out]
      ·show Value.string s2= .string (Fr.of (E r c)).d
       rw [EQ.out,Oy.out]
     case measure=>exact zM
    ·have Tc:c=3:=by omega
     subst Tc
     go_wp2_with fail
     go_roundw
     case rel =>
      have hbv:Below w.heap.size w wr:=HN.out.toBelow hb (Nat.le_refl _)
      refine ⟨r+1,by go_num,by omega,zh (HM.out.step (v:=.slice (some ⟨wo.heap.size,0,none⟩) 3 3) hlt HN.out (fun arr hA=>?_) ?_),hbv⟩
      ·have hAM:arr=qK:=dB.aB.uniq hA Qs.out
       rw [hAM]
       exact HB.out
      ·refine Fill.zL (HF.out.BQ fun i hi=>?_) zi zo
       have hc3:i=0∨i=1∨i=2:=by omega
       rcases hc3 with rfl|rfl|rfl<;>rfl
     case measure=>exact zM
  ·have hrn:r=3:=by omega
   subst hrn
   have hmv:bO wo (.slice (some ⟨w.heap.size,0,none⟩) 3 3) (bg m).fr:=by
    have:bO wo (.slice (some ⟨w.heap.size,0,none⟩) (bg m).fr.length (bg m).fr.length) (bg m).fr:=by
     refine gB.zC ?_ (by show 3≤1000000;omega)
     obtain ⟨arr,k1,k2,k3⟩:=HM.out
     refine ⟨arr,k1,k2,fun i hi=>?_⟩
     have hi3:i<3:=hi
     obtain ⟨v,g1,g2⟩:=k3 i hi3
     refine ⟨v,g1,?_⟩
     rw [← EE.out] at g2
     have hc3:i=0∨i=1∨i=2:=by omega
     rcases hc3 with rfl|rfl|rfl<;>exact g2
    exact this
   have vY:=zh hmv
   clear hmv
   go_wp2_with fail
   go_ret
   exact aU.yes hb vY.out
def jL (k:Int):Int:=if k<1∨4<k then 2 else 0
theorem UN (k:Int) (h:k<1∨4<k) (m:List (List Fr)) (w:World) :
  Calls Tryz.prog 30 #[.int .i64 k] w (aS w 2 m):=by
 rcases h with h|h
 ·have q1:decide (k<1)=true:=by simp;omega
  clear h
  go_enter Tryz.func30,Tryz.ntmps30
  go_wp2_with fail
  go_ret2
  exact aS.no aA zd
 ·have q1:decide (k<1)=false:=by simp;omega
  have q2:decide (4<k)=true:=by simp;omega
  clear h
  go_enter Tryz.func30,Tryz.ntmps30
  go_wp2_with fail
  go_ret2
  exact aS.no aA zd
theorem Qv (m:Nat) (hm:m<4) (w:World) (ht:pR.Pow w) (hc:kU w) :
  Calls Tryz.prog 30 #[.int .i64 ((m:Int)+1)] w (aS w 0 (bg m).fr):=by
 have Nq:∀ (fn:Fn) (first cap:Array Value) (w:World),(Instr.makeFunc fn first cap).run Tryz.prog w= .ok (.func fn first cap) w:=fun _ _ _ _=>rfl
 have q1:decide ((m:Int)+1<1)=false:=by simp;omega
 have q2:decide ((4:Int)<(m:Int)+1)=false:=by simp;omega
 have hb0:Below w.heap.size w (w.alloc (.cells #[.int .i64 ((m:Int)+1)] 3)):=aA
 have hk0:=aB.new w #[.int .i64 ((m:Int)+1)] 3
 have HAT:Hid (Calls Tryz.prog 34 #[.func (.func 73) #[] #[.pointer (some ⟨w.heap.size,0,none⟩)]] (w.alloc (.cells #[.int .i64 ((m:Int)+1)] 3)) (aS (w.alloc (.cells #[.int .i64 ((m:Int)+1)] 3)) 0 (bg m).fr)):=Lib.hid
  (zq 73 #[.pointer (some ⟨w.heap.size,0,none⟩)] 0 (bg m).fr _ (fun W hW=>T9 w.heap.size m hm W (hk0.later hW) ((ht.later hb0).later hW) ((hc.later hb0).later hW)) (fun args W=>enters_of Tryz.func73 zk rfl args W))
 clear hk0 ht hc
 go_enter Tryz.func30,Tryz.ntmps30
 go_wp2_with fail
 refine HAT.out.mono ?_
 rintro e w1 ⟨hb1,v,rfl,hy, -⟩
 obtain ⟨rs,hR, -⟩:=id (hy rfl)
 obtain ⟨a,cap,rfl, -⟩:=hR
 have HV:=zh (hy rfl)
 clear hy HAT
 go_wp2_with fail
 go_ret2
 exact aS.yes (Bt hb0 hb1) HV.out
theorem uN (k:Int) (w:World) (ht:pR.Pow w) (hc:kU w) :
  Calls Tryz.prog 30 #[.int .i64 k] w (aS w (jL k) (bg (k - 1).toNat).fr):=by
 unfold jL
 by_cases h:k<1∨4<k
 ·rw [if_pos h]
  exact UN k h _ w
 ·rw [if_neg h]
  have:=Qv (k - 1).toNat zo w ht hc
  have e:(((k - 1).toNat:Nat):Int)+1=k:=by omega
  rw [e] at this
  exact this
def bH (f:Nat→Rat):light.aY:=⟨Fr.of (f 0),Fr.of (f 1),Fr.of (f 2)⟩
def jQ (f:Nat→Rat):List Rat:=[f 0,f 1,f 2]
def fC (m:matrix.RM) (f:Nat→Rat) (i:Nat):Rat:=dK (m.getD i []) (jQ f)
def dL (f:Nat→Rat):Bool:=dA (f 0)&&dA (f 1)&&dA (f 2)
theorem jI.cells {w:World} {T:TypeId} {a:Option Addr} {n c:Nat} {l:List Fr} (h:jI w T (.slice a n c) l) (h0:0<l.length) :
  n=l.length∧∃ b off,a=some ⟨b,off,none⟩∧b<w.heap.size∧∀ i (h:i<l.length),w.cell? ⟨b,off+i*2,none⟩=some (.string l[i].n)∧w.cell? ⟨b,off+i*2+1,none⟩=some (.string l[i].d):=by
 obtain ⟨a',c',e, -, -, h2⟩:=h.read
 simp only [Value.slice.injEq] at e
 obtain ⟨rfl,rfl,rfl⟩:=e
 obtain ⟨b,off,rfl,k1, -⟩:=h2 0 h0
 refine ⟨rfl,b,off,rfl,k1,fun i hi=>?_⟩
 obtain ⟨b',off',e, -, k2,k3⟩:=h2 i hi
 simp only [Option.some.injEq,Addr.mk.injEq,and_true] at e
 obtain ⟨rfl,rfl⟩:=e
 exact ⟨k2,k3⟩
theorem M4 (va:Value) (m:matrix.RM) (f:Nat→Rat) (w:World) (h:bO w va m.fr) (hm:m.ok 3) (h3:m.length=3) (hf:dL f=true) (ht:pR.Pow w) :
  Calls Tryz.prog 84 #[va,(bH f).v] w (aU w (if dL (fC m f) then 0 else 6) (fun v _=>v=(bH (fC m f)).v)):=by
 have hq:∀ q∈jQ f,dA q=true:=by
  unfold dL at hf
  simp only [Bool.and_eq_true] at hf
  intro q hq
  simp only [jQ,List.mem_cons,List.not_mem_nil,or_false] at hq
  rcases hq with rfl|rfl|rfl
  ·exact hf.1.1
  ·exact hf.1.2
  ·exact hf.2
 have hap:=fun vl (T:TypeId) w' (hb:Below w.heap.size w w') (hl:jI w' T vl ((jQ f).map Fr.of))=>matrix.Ca va vl m (jQ f) T w' (h.later hb) hl hm hq (ht.later hb)
 have hml:(m.map fun r=>dK r (jQ f))=jQ (fC m f):=by
  match m,h3 with
  | [r1,r2,r3],_=>rfl
 rw [hml] at hap
 have hall:(jQ (fC m f)).all dA=dL (fC m f):=by
  simp [jQ,dL,Bool.and_assoc]
 obtain ⟨g,Eg⟩:∃ g:Nat→Rat,Hid (fC m f=g):=⟨_,zh rfl⟩
 rw [Eg.out] at hap hall ⊢
 obtain ⟨er,vZ⟩:∃ y:Int,Hid ((if dL g then 0 else 6)=y):=⟨_,zh rfl⟩
 rw [vZ.out]
 have Qt:=zh hap
 have Co:=zh hall
 obtain ⟨rs,hR, -⟩:=id h
 obtain ⟨a,cap,rfl, -⟩:=hR
 have hl3:m.fr.length=3:=by unfold matrix.RM.fr;rw [List.length_map,h3]
 obtain ⟨n0,hn0⟩:∃ n0,rs.length=n0:=⟨_,rfl⟩
 rw [hn0] at Qt ⊢
 have HL3:Hid (((jQ f).map Fr.of)=[Fr.of (f 0),Fr.of (f 1),Fr.of (f 2)]):=zh rfl
 obtain ⟨⟨a1,a2⟩,E1⟩:∃ x:Fr,Hid (Fr.of (f 0)=x):=⟨_,zh rfl⟩
 obtain ⟨⟨a3,a4⟩,E2⟩:∃ x:Fr,Hid (Fr.of (f 1)=x):=⟨_,zh rfl⟩
 obtain ⟨⟨a5,a6⟩,E3⟩:∃ x:Fr,Hid (Fr.of (f 2)=x):=⟨_,zh rfl⟩
 have ev:(bH f).v= .agg #[.string a1,.string a2,.string a3,.string a4,.string a5,.string a6]:=by
  unfold bH
  rw [E1.out,E2.out,E3.out]
  rfl
 rw [E1.out,E2.out,E3.out] at HL3
 rw [HL3.out] at Qt
 rw [ev]
 clear h hm h3 hf ht hq hap hml hall ev hl3 hn0 E1 E2 E3
 go_enter Tryz.func84,Tryz.ntmps84
 go_wp2_with fail
 obtain ⟨w0,kF⟩:∃ y,((w.alloc (.cells #[.string a1,.string a2,.string a3,.string a4,.string a5,.string a6] 38)).alloc (.cells #[.string ⟨#[]⟩,.string ⟨#[]⟩,.string ⟨#[]⟩,.string ⟨#[]⟩,.string ⟨#[]⟩,.string ⟨#[]⟩] 137)).alloc (.cells #[.string ⟨#[]⟩,.string ⟨#[]⟩,.string ⟨#[]⟩,.string ⟨#[]⟩,.string ⟨#[]⟩,.string ⟨#[]⟩] 137)=y:=⟨_,rfl⟩
 have hb0:Below w.heap.size w w0:=by rw [← kF];exact aA
 have hx0:aB w0 w.heap.size #[.string a1,.string a2,.string a3,.string a4,.string a5,.string a6] 38:=by rw [← kF];exact aL
 have hx1:aB w0 (w.heap.size+1) #[.string ⟨#[]⟩,.string ⟨#[]⟩,.string ⟨#[]⟩,.string ⟨#[]⟩,.string ⟨#[]⟩,.string ⟨#[]⟩] 137:=by rw [← kF];exact aL
 have hx2:aB w0 (w.heap.size+1+1) #[.string ⟨#[]⟩,.string ⟨#[]⟩,.string ⟨#[]⟩,.string ⟨#[]⟩,.string ⟨#[]⟩,.string ⟨#[]⟩] 137:=by rw [← kF];exact aL
 rw [kF]
 clear kF
 refine aC [(.pure,0),(.pure,1),(.pure,2),(.pure,3),(.ext,4),(.pure,5),(.pure,6),(.ext,7),(.fin,8)] zk zk zR zP ?_
 repeat (first|(refine ah rfl rfl fun J h=>?_;go_simp;refine h _ ?_;clear h J)|(refine au rfl rfl rfl rfl fun J h=>?_;go_simp;refine h _ ?_;clear h J;try go_simp))
 refine aD rfl rfl (fun w1 hb1 J hJ=>?_);go_simp
 have h01:Below w0.heap.size w0 w1:=aA
 refine (Qt.out _ 38 w1 (Bt hb0 h01) (light.aY.zL (t:=⟨⟨a1,a2⟩,⟨a3,a4⟩,⟨a5,a6⟩⟩) (hx0.later h01))).mono ?_
 rintro e w2 (⟨hy,vo,rfl,hb2,hfr⟩|⟨hy,rfl,hb2⟩)
 ·rw [Co.out] at hy
  refine hJ _ _ hb2 ?_
  clear hJ J
  obtain ⟨⟨s1,s2⟩,E1⟩:∃ x:Fr,Hid (Fr.of (g 0)=x):=⟨_,zh rfl⟩
  obtain ⟨⟨s3,s4⟩,E2⟩:∃ x:Fr,Hid (Fr.of (g 1)=x):=⟨_,zh rfl⟩
  obtain ⟨⟨s5,s6⟩,E3⟩:∃ x:Fr,Hid (Fr.of (g 2)=x):=⟨_,zh rfl⟩
  have hl:(jQ g).map Fr.of=[⟨s1,s2⟩,⟨s3,s4⟩,⟨s5,s6⟩]:=by
   show [Fr.of (g 0),Fr.of (g 1),Fr.of (g 2)]=_
   rw [E1.out,E2.out,E3.out]
  have hv:(bH g).v= .agg #[.string s1,.string s2,.string s3,.string s4,.string s5,.string s6]:=by
   unfold bH
   rw [E1.out,E2.out,E3.out]
   rfl
  rw [hl] at hfr
  have HVV:=zh hv
  have Xt:Hid (er=0):=zh (by rw [← vZ.out,hy];rfl)
  obtain ⟨ao,co,rfl, -⟩:=hfr.read
  obtain ⟨-, b,off,rfl,lb,hcell⟩:=jI.cells hfr zi
  have hc0:=hcell 0 zi
  have hc1:=hcell 1 zi
  have hc2:=hcell 2 zi
  simp only [List.getElem_cons_zero,List.getElem_cons_succ,Nat.zero_mul,Nat.add_zero] at hc0 hc1 hc2
  clear hl hv hfr hcell hy
  repeat (first|(refine ah rfl rfl fun J h=>?_;go_simp;refine h _ ?_;clear h J)|(refine au rfl rfl rfl rfl fun J h=>?_;go_simp;refine h _ ?_;clear h J;try go_simp))
  refine aD rfl rfl (fun w3 hb3 J hJ=>?_);go_simp
  refine (Iy _ _ _ w3).mono ?_
  rintro e w4 ⟨rfl,rfl⟩
  refine hJ _ _ (Below.refl _ _) ?_
  clear hJ J
  refine aJ [_] rfl (fun w5 hb5=>?_)
  have I4:Below w2.heap.size w2 w5:=aA
  have zK:Below w0.heap.size w0 w5:=Bt (Bt h01 hb2) I4
  have k1:=(I4.cell (p:=⟨b,off,none⟩) lb).trans hc0.1
  have k2:=(I4.cell (p:=⟨b,off+1,none⟩) lb).trans hc0.2
  have k3:=(I4.cell (p:=⟨b,off+1*2,none⟩) lb).trans hc1.1
  have k4:=(I4.cell (p:=⟨b,off+1*2+1,none⟩) lb).trans hc1.2
  have k5:=(I4.cell (p:=⟨b,off+2*2,none⟩) lb).trans hc2.1
  have k6:=(I4.cell (p:=⟨b,off+2*2+1,none⟩) lb).trans hc2.2
  have hy2:=hx2.later zK
  have hcp:∀ ty,(Builtin.copy_ #[56,56] ty #[.slice (some ⟨w.heap.size+1+1,0,none⟩) 3 3,.slice (some ⟨b,off,none⟩) 3 co]).run Tryz.prog w5= .ok (goInt 3) (w5.setRow (w.heap.size+1+1) #[.string s1,.string s2,.string s3,.string s4,.string s5,.string s6]):=fun ty=>by
   obtain ⟨i0,hi,hz0,hz1,hz2⟩:=info_parts matrix.ny
   exact matrix.oh Tryz.prog w5 56 56 ty 36 (w.heap.size+1+1) 0 3 3 2 ⟨b,off,none⟩ 3 co #[.string ⟨#[]⟩,.string ⟨#[]⟩,.string ⟨#[]⟩,.string ⟨#[]⟩,.string ⟨#[]⟩,.string ⟨#[]⟩] 137 [.string s1,.string s2,.string s3,.string s4,.string s5,.string s6] Tryz.underlying56 (by rw [hi];simp [hz1]) hy2 rfl (fun j v hv=>by
    rw [Addr.add_lit]
    match j,hv with
    | 0,hv=>cases hv;exact k1
    | 1,hv=>cases hv;exact k2
    | 2,hv=>cases hv;exact k3
    | 3,hv=>cases hv;exact k4
    | 4,hv=>cases hv;exact k5
    | 5,hv=>cases hv;exact k6) zi (by intro v hv;simp at hv;rcases hv with rfl|rfl|rfl|rfl|rfl|rfl<;>rfl)
  obtain ⟨w6,MK⟩:∃ y,w5.setRow (w.heap.size+1+1) #[.string s1,.string s2,.string s3,.string s4,.string s5,.string s6]=y:=⟨_,rfl⟩
  have hz2:aB w6 (w.heap.size+1+1) #[.string s1,.string s2,.string s3,.string s4,.string s5,.string s6] 137:=by rw [← MK];exact setRow_heap _ _ _ _ _ _ hy2
  have Px:Below w.heap.size w w6:=by rw [← MK];exact below_setRow (Bt hb0 zK) zo _
  have hz1:aB w6 (w.heap.size+1) #[.string ⟨#[]⟩,.string ⟨#[]⟩,.string ⟨#[]⟩,.string ⟨#[]⟩,.string ⟨#[]⟩,.string ⟨#[]⟩] 137:=by
   rw [← MK]
   have:=hx1.later zK
   unfold aB at *
   rw [setRow_other _ _ _ _ zo]
   exact this
  rw [MK] at hcp
  have c2:=hz2.cell
  have c1:=hz1.cell
  have f1:=hz1.free
  have HZ2:=zh hz2
  clear k1 k2 k3 k4 k5 k6 hc0 hc1 hc2 hy2 MK hx0 hx1 hx2 hb0 hb1 h01 hb2 hb3 hb5 I4 zK hz2
  go_wp2_with fail
  refine bP rfl rfl ((((((hz1.set 0 _).set 1 _).set 2 _).set 3 _).set 4 _).set 5 _) Tryz.underlying137 rfl zk ?_
  rw [Xt.out]
  exact aU.yes aA (by rw [HVV.out];rfl)
 ·rw [Co.out] at hy
  have Xk:Hid (er=6):=zh (by rw [← vZ.out,hy];rfl)
  refine hJ _ _ hb2 ?_
  clear hJ J hy
  repeat (first|(refine ah rfl rfl fun J h=>?_;go_simp;refine h _ ?_;clear h J)|(refine au rfl rfl rfl rfl fun J h=>?_;go_simp;refine h _ ?_;clear h J;try go_simp))
  refine aD rfl rfl (fun w3 hb3 J hJ=>?_);go_simp
  refine (DJ _ _ _ 6 zd w3).mono ?_
  rintro e w4 ⟨rfl,rfl⟩
  exact ⟨rfl,by rw [Xk.out];exact aU.no (Bt (Bt (Bt hb0 h01) hb2) aA) zd⟩
def fH (g:Nat→Rat):Bool:=decide (g 0=0) || decide (g 1=0) || decide (g 2=0)
theorem mh {q:Rat} (h:dA q=true):fI (Fr.of q)=(iA q 0,0):=by unfold fI;rw [iX h]
theorem ku {q:Rat}:iA q 0=0↔q=0:=by
 unfold iA
 constructor
 ·intro h
  by_cases h1:q<0
  ·rw [if_pos h1] at h;cases h
  ·rw [if_neg h1] at h
   by_cases h2:0<q
   ·rw [if_pos h2] at h;cases h
   ·grind
 ·intro h
  subst h
  rfl
theorem VY (a b c d e f:ByteArray) (w:World):(Instr.index 135 (.agg #[.string a,.string b,.string c,.string d,.string e,.string f]) (.int .i64 0)).run Tryz.prog w= .ok (.agg #[.string a,.string b]) w:=by kernel_rfl
theorem VX (a b c d e f:ByteArray) (w:World):(Instr.index 135 (.agg #[.string a,.string b,.string c,.string d,.string e,.string f]) (.int .i64 1)).run Tryz.prog w= .ok (.agg #[.string c,.string d]) w:=by kernel_rfl
theorem VW (a b c d e f:ByteArray) (w:World):(Instr.index 135 (.agg #[.string a,.string b,.string c,.string d,.string e,.string f]) (.int .i64 2)).run Tryz.prog w= .ok (.agg #[.string e,.string f]) w:=by kernel_rfl
theorem Mf (g:Nat→Rat) (hg:dL g=true) (w:World) :
  Calls Tryz.prog 85 #[(bH g).v] w (fun e w'=>e= .returned (.bool (fH g))∧Below w.heap.size w w'):=by
 unfold dL at hg
 simp only [Bool.and_eq_true] at hg
 have HS:Hid (∀ k,k<3→∀ w,Calls Tryz.prog 83 #[(Fr.of (g k)).v] w (fun e w'=>e= .returned (.tuple #[.int .i64 (iA (g k) 0),.int .i64 0])∧Below w.heap.size w w')):=zh fun k hk w=>by
  have hq:dA (g k)=true:=by
   have:k=0∨k=1∨k=2:=by omega
   rcases this with rfl|rfl|rfl
   ·exact hg.1.1
   ·exact hg.1.2
   ·exact hg.2
  have:=dJ.jX (Fr.of (g k)) w
  rw [mh hq] at this
  exact this
 obtain ⟨b,Eb⟩:∃ b,Hid (fH g=b):=⟨_,zh rfl⟩
 rw [Eb.out]
 obtain ⟨⟨a1,a2⟩,E1⟩:∃ x:Fr,Hid (Fr.of (g 0)=x):=⟨_,zh rfl⟩
 obtain ⟨⟨a3,a4⟩,E2⟩:∃ x:Fr,Hid (Fr.of (g 1)=x):=⟨_,zh rfl⟩
 obtain ⟨⟨a5,a6⟩,E3⟩:∃ x:Fr,Hid (Fr.of (g 2)=x):=⟨_,zh rfl⟩
 have ev:(bH g).v= .agg #[.string a1,.string a2,.string a3,.string a4,.string a5,.string a6]:=by
  unfold bH
  rw [E1.out,E2.out,E3.out]
  rfl
 rw [ev]
 have hi0:=VY a1 a2 a3 a4 a5 a6
 have hi1:=VX a1 a2 a3 a4 a5 a6
 have hi2:=VW a1 a2 a3 a4 a5 a6
 clear hg ev
 go_enter Tryz.func85,Tryz.ntmps85
 go_wp2_with fail
 go_loopw [6] (fun iv wr=>∃ k:Nat,iv= .int .i64 (k:Int)∧k≤3∧Hid (∀ j,j<k→g j≠0)∧Below w.heap.size w wr) (fun iv _=>3 - (intOf iv).toNat)
 case atStart=>exact ⟨0,rfl,by omega,zh (fun j h=>by omega),aA⟩
 case round =>
  obtain ⟨k,rfl,hk,HZ,hb⟩:=hrel
  rcases Nat.lt_or_ge k 3 with hlt|hge
  ·have hk3:k=0∨k=1∨k=2:=by omega
   rcases hk3 with rfl|rfl|rfl
   ·have hs:=HS.out 0 zo
    rw [E1.out] at hs
    unfold Fr.v at hs
    simp only at hs
    have Ut:=zh hs
    clear hs
    by_cases hz:g 0=0
    ·have hc:iA (g 0) 0=0:=ku.2 hz
     rw [hc] at Ut
     have hf:b=true:=by
      rw [← Eb.out]
      unfold fH
      simp [hz]
     have HB:=zh hf
     clear hf hz hc
     go_wp2_with fail
     refine (Ut.out _).mono ?_
     rintro e w2 ⟨rfl,hb2⟩
     go_wp2_with fail
     refine (mK _ _).mono ?_
     rintro e w3 ⟨rfl,rfl⟩
     go_wp2_with fail
     go_ret
     exact ⟨by rw [HB.out];rfl,Bt (aN hb _) hb2⟩
    ·have hc:¬ iA (g 0) 0=0:=fun e=>hz (ku.1 e)
     have HNZ:=zh hz
     generalize iA (g 0) 0=s at *
     have hc2:(s == 0)=false:=by simp [hc]
     clear hz hc
     go_wp2_with fail
     refine (Ut.out _).mono ?_
     rintro e w2 ⟨rfl,hb2⟩
     go_wp2_with fail
     refine (mK _ _).mono ?_
     rintro e w3 ⟨rfl,rfl⟩
     go_wp2_with fail
     go_roundw
     case rel =>
      refine ⟨0+1,by go_num,by omega,zh fun j hj=>?_,Bt (aN hb _) hb2⟩
      rcases Nat.lt_or_ge j 0 with h|h
      ·exact HZ.out j h
      ·obtain rfl:j=0:=by omega
       exact HNZ.out
     case measure=>simp [intOf]
   ·have hs:=HS.out 1 zo
    rw [E2.out] at hs
    unfold Fr.v at hs
    simp only at hs
    have Ut:=zh hs
    clear hs
    by_cases hz:g 1=0
    ·have hc:iA (g 1) 0=0:=ku.2 hz
     rw [hc] at Ut
     have hf:b=true:=by
      rw [← Eb.out]
      unfold fH
      simp [hz]
     have HB:=zh hf
     clear hf hz hc
     go_wp2_with fail
     refine (Ut.out _).mono ?_
     rintro e w2 ⟨rfl,hb2⟩
     go_wp2_with fail
     refine (mK _ _).mono ?_
     rintro e w3 ⟨rfl,rfl⟩
     go_wp2_with fail
     go_ret
     exact ⟨by rw [HB.out];rfl,Bt (aN hb _) hb2⟩
    ·have hc:¬ iA (g 1) 0=0:=fun e=>hz (ku.1 e)
     have HNZ:=zh hz
     generalize iA (g 1) 0=s at *
     have hc2:(s == 0)=false:=by simp [hc]
     clear hz hc
     go_wp2_with fail
     refine (Ut.out _).mono ?_
     rintro e w2 ⟨rfl,hb2⟩
     go_wp2_with fail
     refine (mK _ _).mono ?_
     rintro e w3 ⟨rfl,rfl⟩
     go_wp2_with fail
     go_roundw
     case rel =>
      refine ⟨1+1,by go_num,by omega,zh fun j hj=>?_,Bt (aN hb _) hb2⟩
      rcases Nat.lt_or_ge j 1 with h|h
      ·exact HZ.out j h
      ·obtain rfl:j=1:=by omega
       exact HNZ.out
     case measure=>simp [intOf]
   ·have hs:=HS.out 2 zo
    rw [E3.out] at hs
    unfold Fr.v at hs
    simp only at hs
    have Ut:=zh hs
    clear hs
    by_cases hz:g 2=0
    ·have hc:iA (g 2) 0=0:=ku.2 hz
     rw [hc] at Ut
     have hf:b=true:=by
      rw [← Eb.out]
      unfold fH
      simp [hz]
     have HB:=zh hf
     clear hf hz hc
     go_wp2_with fail
     refine (Ut.out _).mono ?_
     rintro e w2 ⟨rfl,hb2⟩
     go_wp2_with fail
     refine (mK _ _).mono ?_
     rintro e w3 ⟨rfl,rfl⟩
     go_wp2_with fail
     go_ret
     exact ⟨by rw [HB.out];rfl,Bt (aN hb _) hb2⟩
    ·have hc:¬ iA (g 2) 0=0:=fun e=>hz (ku.1 e)
     have HNZ:=zh hz
     generalize iA (g 2) 0=s at *
     have hc2:(s == 0)=false:=by simp [hc]
     clear hz hc
     go_wp2_with fail
     refine (Ut.out _).mono ?_
     rintro e w2 ⟨rfl,hb2⟩
     go_wp2_with fail
     refine (mK _ _).mono ?_
     rintro e w3 ⟨rfl,rfl⟩
     go_wp2_with fail
     go_roundw
     case rel =>
      refine ⟨2+1,by go_num,by omega,zh fun j hj=>?_,Bt (aN hb _) hb2⟩
      rcases Nat.lt_or_ge j 2 with h|h
      ·exact HZ.out j h
      ·obtain rfl:j=2:=by omega
       exact HNZ.out
     case measure=>simp [intOf]
  ·have hk3:k=3:=by omega
   subst hk3
   have hf:b=false:=by
    rw [← Eb.out]
    unfold fH
    simp [HZ.out 0 zo,HZ.out 1 zo,HZ.out 2 zo]
   have HB:=zh hf
   clear hf
   go_wp2_with fail
   go_ret
   exact ⟨by rw [HB.out];rfl,hb⟩
def jR (d p q:Rat):Rat:=d*(q / p)+(1 - d)
def gU (d p q:Rat):Bool:=dA (q / p)&&dA (d*(q / p))&&dA (1 - d)&&dA (jR d p q)
theorem wE (q:Rat):(dA q=true∧∃ s t,Fr.of q=⟨s,t⟩∧Fr.res (dB.wr q)= .tuple #[.agg #[.string s,.string t],.int .i64 0])∨(dA q=false∧Fr.res (dB.wr q)= .tuple #[.agg #[.string ⟨#[]⟩,.string ⟨#[]⟩],.int .i64 6]):=by
 cases h:dA q with
 | false=>exact .inr ⟨rfl,rY h⟩
 | true=>exact .inl ⟨rfl,(Fr.of q).n,(Fr.of q).d,rfl,by unfold dB.wr;rw [if_pos h];rfl⟩
theorem Ny {p q:Rat} (hp:dA p=true) (hq:dA q=true) (h0:q≠0):zN (Fr.of p) (Fr.of q)=dB.wr (p / q):=by
 unfold zN
 rw [iL (iX hp) (iX hq),if_neg h0]
theorem Nc {p q:Rat} (hp:dA p=true) (hq:dA q=true):IC (Fr.of p) (Fr.of q)=dB.wr (p*q):=iL (iX hp) (iX hq)
theorem Od {p q:Rat} (hp:dA p=true) (hq:dA q=true):JI (Fr.of p) (Fr.of q)=dB.wr (p+q):=iL (iX hp) (iX hq)
theorem MV {p q:Rat} (hp:dA p=true) (hq:dA q=true):Fw (Fr.of p) (Fr.of q)=dB.wr (p - q):=iL (iX hp) (iX hq)
theorem WE (bs bf bd bo k:Nat) (g2 g1:Nat→Rat) (d:Rat) (w:World) (hs:aB w bs (bH g2).cells 137) (hf:aB w bf (bH g1).cells 137)
  (hd:aB w bd #[.string (Fr.of d).n,.string (Fr.of d).d] 36) (ho:aB w bo #[.string (Fr.of 1).n,.string (Fr.of 1).d] 36)
  (hk:k<3) (h2:dA (g2 k)=true) (h1:dA (g1 k)=true) (h0:g1 k≠0) (hdk:dA d=true) (ht:pR.Pow w) :
  Calls Tryz.prog 86 #[.int .i64 (k:Int),.pointer (some ⟨bs,0,none⟩),.pointer (some ⟨bf,0,none⟩),.pointer (some ⟨bd,0,none⟩),.pointer (some ⟨bo,0,none⟩)] w
   (aU w (if gU d (g1 k) (g2 k) then 0 else 6) (fun v _=>v=(Fr.of (jR d (g1 k) (g2 k))).v)):=by
 have hk3:k=0∨k=1∨k=2:=by omega
 have c2a:w.cell? ⟨bs,k*2,none⟩=some (.string (Fr.of (g2 k)).n):=by rw [hs.cell];rcases hk3 with rfl|rfl|rfl<;>rfl
 have c2b:w.cell? ⟨bs,k*2+1,none⟩=some (.string (Fr.of (g2 k)).d):=by rw [hs.cell];rcases hk3 with rfl|rfl|rfl<;>rfl
 have c1a:w.cell? ⟨bf,k*2,none⟩=some (.string (Fr.of (g1 k)).n):=by rw [hf.cell];rcases hk3 with rfl|rfl|rfl<;>rfl
 have c1b:w.cell? ⟨bf,k*2+1,none⟩=some (.string (Fr.of (g1 k)).d):=by rw [hf.cell];rcases hk3 with rfl|rfl|rfl<;>rfl
 have hdiv:=fun w' hb=>dJ.Ct (Fr.of (g2 k)) (Fr.of (g1 k)) w' (ht.later hb)
 rw [Ny h2 h1 h0] at hdiv
 have h11:dA 1=true:=by decide+kernel
 have hmul:=fun (x:Rat) (hx:dA x=true) w' hb=>(Nc hdk hx) ▸ dJ.tV (Fr.of d) (Fr.of x) w' (ht.later hb)
 have hsub:=fun w' hb=>dJ.Ch (Fr.of 1) (Fr.of d) w' (ht.later hb)
 rw [MV h11 hdk] at hsub
 have hadd:=fun (x y:Rat) (hx:dA x=true) (hy:dA y=true) w' hb=>(Od hx hy) ▸ dJ.Cv (Fr.of x) (Fr.of y) w' (ht.later hb)
 have hg:jR d (g1 k) (g2 k)=d*(g2 k / g1 k)+(1 - d):=rfl
 have hgo:gU d (g1 k) (g2 k)=(dA (g2 k / g1 k)&&dA (d*(g2 k / g1 k))&&dA (1 - d)&&dA (d*(g2 k / g1 k)+(1 - d))):=rfl
 rw [hg,hgo]
 generalize g2 k / g1 k=x1 at *
 obtain ⟨⟨s1,s2⟩,E1⟩:∃ x:Fr,Hid (Fr.of (g2 k)=x):=⟨_,zh rfl⟩
 obtain ⟨⟨t1,t2⟩,E2⟩:∃ x:Fr,Hid (Fr.of (g1 k)=x):=⟨_,zh rfl⟩
 obtain ⟨⟨d1,d2⟩,E3⟩:∃ x:Fr,Hid (Fr.of d=x):=⟨_,zh rfl⟩
 obtain ⟨⟨o1,o2⟩,E4⟩:∃ x:Fr,Hid (Fr.of 1=x):=⟨_,zh rfl⟩
 rw [E1.out] at c2a c2b hdiv
 rw [E2.out] at c1a c1b hdiv
 rw [E3.out] at hd hmul hsub
 rw [E4.out] at ho hsub
 have l2:=hs.lt
 have l1:=hf.lt
 have cd:=hd.cell
 have ld:=hd.lt
 have co:=ho.cell
 have lo:=ho.lt
 have hkk:(k:Int)<3:=by omega
 have aJ1:=zh hdiv
 have ay9:=zh hmul
 have aI8:=zh hsub
 have az3:=zh hadd
 obtain ⟨er,vZ⟩:∃ y:Int,Hid ((if (dA x1&&dA (d*x1)&&dA (1 - d)&&dA (d*x1+(1 - d))) then 0 else 6)=y):=⟨_,zh rfl⟩
 have HDK:=zh hdk
 rw [vZ.out]
 clear hs hf hk3 hdiv hmul hsub hadd hg hgo h11 h0 h1 h2 hdk ht
 go_enter Tryz.func86,Tryz.ntmps86
 go_wp2_with fail
 refine aC [(.pure,0),(.pure,1),(.pure,2),(.read,3),(.pure,4),(.pure,5),(.pure,6),(.read,7),(.ext,8),(.pure,9),(.pure,10),(.ext,11),(.alloc #[.string ⟨#[]⟩,.string ⟨#[]⟩] 36,12),(.fin,13)] zk zk zR zP ?_
 repeat (first|(refine ah rfl rfl fun J h=>?_;go_simp;refine h _ ?_;clear h J)|(refine au rfl rfl rfl rfl fun J h=>?_;go_simp;refine h _ ?_;clear h J;try go_simp))
 have hA0:Below w.heap.size w (w.alloc (.cells #[.string ⟨#[]⟩,.string ⟨#[]⟩] 36)):=aA
 have hr0:=aB.new w #[.string ⟨#[]⟩,.string ⟨#[]⟩] 36
 refine aD rfl rfl (fun w1 hb1 J hJ=>?_);go_simp
 have hr1:=hr0.drew.later hb1
 have h1:Below w.heap.size w w1:=aA
 refine (aJ1.out w1 h1).mono ?_
 rintro e w2 ⟨rfl,hb2⟩
 refine hJ _ _ hb2 ?_
 clear hJ J
 have h2:Below w.heap.size w w2:=Bt h1 hb2
 replace hr1:=hr1.later hb2
 rcases wE x1 with ⟨hx1,u1,u2,eu,hres⟩|⟨hx1,hres⟩
 rotate_left
 ·have GL:Hid (er=6):=zh (by rw [← vZ.out,hx1];rfl)
  rw [hres]
  clear hx1
  repeat (first|(refine ah rfl rfl fun J h=>?_;go_simp;refine h _ ?_;clear h J)|(refine au rfl rfl rfl rfl fun J h=>?_;go_simp;refine h _ ?_;clear h J;try go_simp))
  refine aD rfl rfl (fun w3 hb3 J hJ=>?_);go_simp
  refine (uz Fr.no 6 zd w3).mono ?_
  rintro e w4 ⟨rfl,hb4⟩
  exact ⟨rfl,by rw [GL.out];exact aU.no (Bt (Bt h2 hb3) hb4) zd⟩
 have HX1:=zh hx1
 have hmul:=ay9.out x1 hx1
 rw [eu] at hmul
 have HMU:=zh hmul
 rw [hres]
 clear eu hx1 hres hmul ay9
 repeat (first|(refine ah rfl rfl fun J h=>?_;go_simp;refine h _ ?_;clear h J)|(refine au rfl rfl rfl rfl fun J h=>?_;go_simp;refine h _ ?_;clear h J;try go_simp))
 refine aD rfl rfl (fun w3 hb3 J hJ=>?_);go_simp
 refine (qB ⟨u1,u2⟩ w3).mono ?_
 unfold Fr.v
 rintro e w4 ⟨rfl,hb4⟩
 refine hJ _ _ hb4 ?_
 clear hJ J
 have h24:Below w2.heap.size w2 w4:=Bt hb3 hb4
 have h4:Below w.heap.size w w4:=Bt h2 h24
 replace hr1:=hr1.later h24
 repeat (first|(refine ah rfl rfl fun J h=>?_;go_simp;refine h _ ?_;clear h J)|(refine au rfl rfl rfl rfl fun J h=>?_;go_simp;refine h _ ?_;clear h J;try go_simp))
 refine aQ rfl (fun b12 w5 QF Tt aE2 aL0 wV=>?_);go_simp;replace wV:aB _ _ _ _:=wV;have aK9:w.heap.size≤b12:=(by first|omega|exact Nat.le_trans (Below.size (B:=w.heap.size) aA) Tt)
 refine aJ [_] rfl (fun w6 hb6=>?_)
 replace wV:=aB.later (wV) hb6;replace af3:=wV.cell;replace ae8:=wV.free;replace Zr:=wV.lt
 have h46:Below w4.heap.size w4 w6:=aA
 have h6:Below w.heap.size w w6:=Bt h4 h46
 replace hr1:=hr1.later h46
 have hNe:w.heap.size+1≤b12:=Tt
 have hne:w.heap.size≠b12:=by omega
 have hd6:=hd.later h6
 have ho6:=ho.later h6
 have cd6:=hd6.cell
 have co6:=ho6.cell
 have ned:bd≠b12:=by omega
 have neo:bo≠b12:=by omega
 clear hb1 hb2 hb3 hb4 hb6 h1 h2 h24 h46 h4 c2a c2b c1a c1b Tt
 go_wp2_with fail
 obtain ⟨w7,E7⟩:∃ y,(w6.setCell ⟨b12,0,none⟩ (.string u1)).setCell ⟨b12,1,none⟩ (.string u2)=y:=⟨_,rfl⟩
 have h7:Below w.heap.size w w7:=by
  rw [← E7]
  have:w.heap.size≤b12:=by omega
  exact (h6.setCell this _).setCell this _
 have hp7:aB w7 b12 #[.string u1,.string u2] 36:=by rw [← E7];exact (wV.set 0 _).set 1 _
 have hr7:aB w7 w.heap.size #[.string ⟨#[]⟩,.string ⟨#[]⟩] 36:=by rw [← E7];exact (hr1.setOther _ hne).setOther _ hne
 have hd7:aB w7 bd #[.string d1,.string d2] 36:=by rw [← E7];exact (hd6.setOther _ ned).setOther _ ned
 have ho7:aB w7 bo #[.string o1,.string o2] 36:=by rw [← E7];exact (ho6.setOther _ neo).setOther _ neo
 rw [E7]
 clear E7 hd6 ho6 cd6 co6 wV af3 ae8 Zr hr1 h6 cd co
 refine (HMU.out w7 h7).mono ?_
 rintro e w8 ⟨rfl,kE⟩
 have h8:Below w.heap.size w w8:=Bt h7 kE
 rcases wE (d*x1) with ⟨hx2,v1,v2,eu,hres⟩|⟨hx2,hres⟩
 rotate_left
 ·have GL:Hid (er=6):=zh (by rw [← vZ.out,hx2];simp)
  rw [hres]
  clear hx2
  go_wp2_with fail
  refine (uz Fr.no 6 zd _).mono ?_
  rintro e w9 ⟨rfl,gQ⟩
  exact ⟨rfl,by rw [GL.out];exact aU.no (Bt h8 gQ) zd⟩
 have hadd:=fun y hy=>az3.out (d*x1) y hx2 hy
 rw [eu] at hadd
 have HAD:=zh hadd
 have Yr:=zh hx2
 rw [hres]
 clear eu hx2 hres hadd az3
 go_wp2_with fail
 refine (qB ⟨v1,v2⟩ _).mono ?_
 unfold Fr.v
 rintro e w9 ⟨rfl,gQ⟩
 have h79:Below w7.heap.size w7 w9:=Bt kE gQ
 have hp9:=hp7.later h79
 have cp9:=hp9.cell
 have fp9:=hp9.free
 have hr9:=hr7.later h79
 have hd9:=hd7.later h79
 have ho9:=ho7.later h79
 have h9:Below w.heap.size w w9:=Bt h7 h79
 have hge:w.heap.size≤b12:=by omega
 clear hp7 hr7 hd7 ho7 h79 kE gQ h8 h7
 go_wp2_with fail
 obtain ⟨wa,Ea⟩:∃ y,(w9.setCell ⟨b12,0,none⟩ (.string v1)).setCell ⟨b12,1,none⟩ (.string v2)=y:=⟨_,rfl⟩
 have ha:Below w.heap.size w wa:=by
  rw [← Ea]
  exact (h9.setCell hge _).setCell hge _
 have hpa:aB wa b12 #[.string v1,.string v2] 36:=by rw [← Ea];exact (hp9.set 0 _).set 1 _
 have hra:aB wa w.heap.size #[.string ⟨#[]⟩,.string ⟨#[]⟩] 36:=by rw [← Ea];exact (hr9.setOther _ hne).setOther _ hne
 have hda:aB wa bd #[.string d1,.string d2] 36:=by rw [← Ea];exact (hd9.setOther _ ned).setOther _ ned
 have hoa:aB wa bo #[.string o1,.string o2] 36:=by rw [← Ea];exact (ho9.setOther _ neo).setOther _ neo
 rw [Ea]
 have cpa:=hpa.cell
 have lpa:=hpa.lt
 have cda:=hda.cell
 have lda:=hda.lt
 have coa:=hoa.cell
 have loa:=hoa.lt
 clear Ea hp9 cp9 fp9 hr9 hd9 ho9 h9
 refine aC [(.read,0),(.read,1),(.read,2),(.ext,3),(.pure,4),(.pure,5),(.ext,6),(.ext,7),(.pure,8),(.pure,9),(.ext,10),(.fin,11)] zk zk zR zP ?_
 repeat (first|(refine ah rfl rfl fun J h=>?_;go_simp;refine h _ ?_;clear h J)|(refine au rfl rfl rfl rfl fun J h=>?_;go_simp;refine h _ ?_;clear h J;try go_simp))
 refine aD rfl rfl (fun w1 hb1 J hJ=>?_);go_simp
 have Bp:=hra.drew.later hb1
 have h1:Below w.heap.size w w1:=aA
 refine (aI8.out w1 h1).mono ?_
 rintro e w2 ⟨rfl,hb2⟩
 refine hJ _ _ hb2 ?_
 clear hJ J
 have h2:Below w.heap.size w w2:=Bt h1 hb2
 replace Bp:=Bp.later hb2
 rcases wE (1 - d) with ⟨hx3,p1,p2,eu,hres⟩|⟨hx3,hres⟩
 rotate_left
 ·have GL:Hid (er=6):=zh (by rw [← vZ.out,hx3];simp)
  rw [hres]
  clear hx3
  repeat (first|(refine ah rfl rfl fun J h=>?_;go_simp;refine h _ ?_;clear h J)|(refine au rfl rfl rfl rfl fun J h=>?_;go_simp;refine h _ ?_;clear h J;try go_simp))
  refine aD rfl rfl (fun w3 hb3 J hJ=>?_);go_simp
  refine (uz Fr.no 6 zd w3).mono ?_
  rintro e w4 ⟨rfl,hb4⟩
  exact ⟨rfl,by rw [GL.out];exact aU.no (Bt (Bt h2 hb3) hb4) zd⟩
 have hadd:=HAD.out (1 - d) hx3
 rw [eu] at hadd
 have aJ3:=zh hadd
 have QN:=zh hx3
 rw [hres]
 clear eu hx3 hres hadd HAD
 repeat (first|(refine ah rfl rfl fun J h=>?_;go_simp;refine h _ ?_;clear h J)|(refine au rfl rfl rfl rfl fun J h=>?_;go_simp;refine h _ ?_;clear h J;try go_simp))
 refine aD rfl rfl (fun w3 hb3 J hJ=>?_);go_simp
 refine (qB ⟨p1,p2⟩ w3).mono ?_
 unfold Fr.v
 rintro e w4 ⟨rfl,hb4⟩
 refine hJ _ _ hb4 ?_
 clear hJ J
 have h4:Below w.heap.size w w4:=Bt h2 (Bt hb3 hb4)
 replace Bp:=Bp.later (Bt hb3 hb4)
 repeat (first|(refine ah rfl rfl fun J h=>?_;go_simp;refine h _ ?_;clear h J)|(refine au rfl rfl rfl rfl fun J h=>?_;go_simp;refine h _ ?_;clear h J;try go_simp))
 refine aD rfl rfl (fun w5 hb5 J hJ=>?_);go_simp
 have h5:Below w.heap.size w w5:=Bt h4 hb5
 refine (aJ3.out w5 h5).mono ?_
 rintro e w6' ⟨rfl,hb6⟩
 refine hJ _ _ hb6 ?_
 clear hJ J
 have h6:Below w.heap.size w w6':=Bt h5 hb6
 replace Bp:=Bp.later (Bt hb5 hb6)
 rcases wE (d*x1+(1 - d)) with ⟨hx4,q1,q2,eu,hres⟩|⟨hx4,hres⟩
 rotate_left
 ·have GL:Hid (er=6):=zh (by rw [← vZ.out,hx4];simp)
  rw [hres]
  clear hx4
  repeat (first|(refine ah rfl rfl fun J h=>?_;go_simp;refine h _ ?_;clear h J)|(refine au rfl rfl rfl rfl fun J h=>?_;go_simp;refine h _ ?_;clear h J;try go_simp))
  refine aD rfl rfl (fun w3 hb3 J hJ=>?_);go_simp
  refine (uz Fr.no 6 zd w3).mono ?_
  rintro e w4 ⟨rfl,hb4⟩
  exact ⟨rfl,by rw [GL.out];exact aU.no (Bt (Bt h6 hb3) hb4) zd⟩
 have Xt:Hid (er=0):=zh (by rw [← vZ.out,HX1.out,Yr.out,QN.out,hx4];rfl)
 have YA:=zh eu
 rw [hres]
 clear eu hx4 hres
 repeat (first|(refine ah rfl rfl fun J h=>?_;go_simp;refine h _ ?_;clear h J)|(refine au rfl rfl rfl rfl fun J h=>?_;go_simp;refine h _ ?_;clear h J;try go_simp))
 refine aD rfl rfl (fun w7' dY J hJ=>?_);go_simp
 refine (qB ⟨q1,q2⟩ w7').mono ?_
 unfold Fr.v
 rintro e w8' ⟨rfl,kE⟩
 refine hJ _ _ kE ?_
 clear hJ J
 repeat (first|(refine ah rfl rfl fun J h=>?_;go_simp;refine h _ ?_;clear h J)|(refine au rfl rfl rfl rfl fun J h=>?_;go_simp;refine h _ ?_;clear h J;try go_simp))
 refine aJ [_] rfl (fun wz gQ=>?_)
 have h69:Below w6'.heap.size w6' wz:=aA
 replace Bp:=Bp.later h69
 have cra:=Bp.cell
 have fra:=Bp.free
 have h9:Below w.heap.size w wz:=Bt h6 h69
 clear hb1 hb2 hb3 hb4 hb5 hb6 dY kE gQ h1 h2 h4 h5 h6 h69
 go_wp2_with fail
 refine bP rfl rfl ((Bp.set 0 _).set 1 _) Tryz.underlying36 rfl zk ?_
 rw [Xt.out]
 exact aU.yes ((h9.setCell (Nat.le_refl _) _).setCell (Nat.le_refl _) _) (by rw [YA.out];rfl)
def qF (a:Fr):Rat:=(rd a).getD 0
def qT (t:light.aY) (i:Nat):Rat:=qF (t.get i)
theorem yY {a:Fr} (h:(rd a).isSome=true):a=Fr.of (qF a)∧dA (qF a)=true:=by
 cases hr:rd a with
 | none=>rw [hr] at h;cases h
 | some q =>
  have:=jJ hr
  unfold qF
  rw [hr]
  exact this
theorem Ru {t:light.aY} (h:dP t.list=0):t=bH (qT t)∧dL (qT t)=true:=by
 unfold dP at h
 split at h
 ·rename_i hh
  simp only [light.aY.list,List.all_cons,List.all_nil,Bool.and_true,Bool.and_eq_true] at hh
  obtain ⟨h1,h2,h3⟩:=hh
  obtain ⟨e1,k1⟩:=yY h1
  obtain ⟨e2,k2⟩:=yY h2
  obtain ⟨e3,k3⟩:=yY h3
  obtain ⟨x,y,z⟩:=t
  refine ⟨?_,?_⟩
  ·show (⟨x,y,z⟩:light.aY)=⟨Fr.of (qF x),Fr.of (qF y),Fr.of (qF z)⟩
   rw [← e1,← e2,← e3]
  ·show (dA (qF x)&&dA (qF y)&&dA (qF z))=true
   rw [k1,k2,k3]
   rfl
 ·cases h
theorem Ib {t:light.aY} (h:light.jG t=0):dP t.list=0:=by
 have h1:light.iU t=0:=by
  unfold light.jG at h
  by_cases hc:light.iU t=0
  ·exact hc
  ·simp [hc] at h
 unfold light.iU at h1
 by_cases hc:dP t.list=0
 ·exact hc
 ·rw [if_neg hc] at h1;cases h1
theorem tC (m:Nat) (hm:m<4):(bg m).ok 3:=by
 refine ⟨by show 1≤3;omega,by show 3≤4;omega,by omega,by omega,fun r hr=>?_⟩
 obtain ⟨i,hi,rfl⟩:=List.mem_map.1 hr
 refine ⟨by simp,fun q hq=>?_⟩
 obtain ⟨j,hj,rfl⟩:=List.mem_map.1 hq
 exact Jk m hm i (List.mem_range.1 hi) j (List.mem_range.1 hj)
def fZ (k:Int) (t:light.aY):Nat→Rat:=fC (bg (k - 1).toNat) (qT t)
def iJ (k:Int) (a b:light.aY) (d:Fr) (i:Nat):Rat:=jR (qF d) (fZ k a i) (fZ k b i)
def tJ (k:Int) (a b:light.aY) (d:Fr):Int :=
 if jL k≠0 then jL k else if light.jG a≠0 then light.jG a else if light.jG b≠0 then light.jG b else if zn d≠0 then zn d
 else if iA (qF d) 0<0∨0<iA (qF d) 1 then 2 else 0
def jh (k:Int) (a b:light.aY) (d:Fr):Int :=
 if tJ k a b d≠0 then tJ k a b d
 else if dL (fZ k a)=false then 6 else if dL (fZ k b)=false then 6 else if fH (fZ k a) then 7
 else if gU (qF d) (fZ k a 0) (fZ k b 0)&&gU (qF d) (fZ k a 1) (fZ k b 1)&&gU (qF d) (fZ k a 2) (fZ k b 2) then 0 else 6
theorem I6 (k:Int) (a b:light.aY) (d:Fr) (w:World) (ht:pR.Pow w) (hc:kU w) :
  Calls Tryz.prog 36 #[.int .i64 k,a.v,b.v,d.v] w (aU w (jh k a b d) (fun v _=>v=(bH (iJ k a b d)).v)):=by
 have U7:=zh (fun w' hb=>uN k w' (ht.later hb) (hc.later hb))
 have Yu:=zh (fun w'=>light.tN a w')
 have Ux:=zh (fun w'=>light.tN b w')
 have rV:=zh (fun w'=>dJ.qH d w')
 have Qo:=zh (fun w' hb=>dJ.vC 1 1 zo zo zo zo w' (ht.later hb))
 have h11:Fr.res (zY 1 1)= .tuple #[(Fr.of 1).v,.int .i64 0]:=by
  unfold zY
  rw [if_neg zd]
  have e:((1:Int):Rat) / ((1:Int):Rat)=1:=by decide+kernel
  rw [e]
  unfold dB.wr
  rw [if_pos (by decide+kernel)]
  rfl
 rw [h11] at Qo
 have EN:Hid (zn d=0→∀ w',Calls Tryz.prog 83 #[d.v] w' (fun e w''=>e= .returned (.tuple #[.int .i64 (iA (qF d) 0),.int .i64 0])∧Below w'.heap.size w' w'')):=zh fun h w'=>by
  have hs:(rd d).isSome=true:=by
   unfold zn at h
   split at h
   ·assumption
   ·cases h
  obtain ⟨e1,e2⟩:=yY hs
  have:=dJ.jX d w'
  have e3:fI d=(iA (qF d) 0,0):=by
   conv=>lhs;rw [e1]
   exact mh e2
  rw [e3] at this
  exact this
 have HCM:Hid (zn d=0→∀ w',Calls Tryz.prog 32 #[d.v,(Fr.of 1).v] w' (fun e w''=>e= .returned (.tuple #[.int .i64 (iA (qF d) 1),.int .i64 0])∧Below w'.heap.size w' w'')):=zh fun h w'=>by
  have hs:(rd d).isSome=true:=by
   unfold zn at h
   split at h
   ·assumption
   ·cases h
  obtain ⟨e1,e2⟩:=yY hs
  have:=dJ.ah5 d (Fr.of 1) w'
  have e3:Qb d (Fr.of 1)=(iA (qF d) 1,0):=by
   conv=>lhs;rw [e1]
   unfold Qb
   rw [iX e2,iX (show dA 1=true by decide+kernel)]
  rw [e3] at this
  exact this
 have YB:Hid (zn d=0→d=Fr.of (qF d)∧dA (qF d)=true):=zh fun h=>yY (by
   unfold zn at h
   split at h
   ·assumption
   ·cases h)
 have Uv:Hid (light.jG a=0→∀ va w',Below w.heap.size w w'→bO w' va (bg (k - 1).toNat).fr→jL k=0→Calls Tryz.prog 84 #[va,a.v] w' (aU w' (if dL (fZ k a) then 0 else 6) (fun v _=>v=(bH (fZ k a)).v))):=zh fun h va w' hb hv hk=>by
  obtain ⟨e1,e2⟩:=Ru (Ib h)
  have hm:(k - 1).toNat<4:=by
   unfold jL at hk
   by_cases h:k<1∨4<k
   ·rw [if_pos h] at hk;cases hk
   ·omega
  have:=M4 va (bg (k - 1).toNat) (qT a) w' hv (tC _ hm) rfl e2 (ht.later hb)
  rw [← e1] at this
  exact this
 have Uu:Hid (light.jG b=0→∀ va w',Below w.heap.size w w'→bO w' va (bg (k - 1).toNat).fr→jL k=0→Calls Tryz.prog 84 #[va,b.v] w' (aU w' (if dL (fZ k b) then 0 else 6) (fun v _=>v=(bH (fZ k b)).v))):=zh fun h va w' hb hv hk=>by
  obtain ⟨e1,e2⟩:=Ru (Ib h)
  have hm:(k - 1).toNat<4:=by
   unfold jL at hk
   by_cases h:k<1∨4<k
   ·rw [if_pos h] at hk;cases hk
   ·omega
  have:=M4 va (bg (k - 1).toNat) (qT b) w' hv (tC _ hm) rfl e2 (ht.later hb)
  rw [← e1] at this
  exact this
 have HT:=zh ht
 obtain ⟨fa,Efa⟩:∃ y,Hid (fZ k a=y):=⟨_,zh rfl⟩
 obtain ⟨fb,Efb⟩:∃ y,Hid (fZ k b=y):=⟨_,zh rfl⟩
 obtain ⟨qd,Eqd⟩:∃ y,Hid (qF d=y):=⟨_,zh rfl⟩
 obtain ⟨sa,Esa⟩:∃ y,Hid (light.jG a=y):=⟨_,zh rfl⟩
 obtain ⟨sb,Esb⟩:∃ y,Hid (light.jG b=y):=⟨_,zh rfl⟩
 obtain ⟨ck,Eck⟩:∃ y,Hid (zn d=y):=⟨_,zh rfl⟩
 obtain ⟨ce,Ece⟩:∃ y,Hid (jL k=y):=⟨_,zh rfl⟩
 have hea:tJ k a b d=if ce≠0 then ce else if sa≠0 then sa else if sb≠0 then sb else if ck≠0 then ck else if iA qd 0<0∨0<iA qd 1 then 2 else 0:=by
  unfold tJ
  rw [Ece.out,Esa.out,Esb.out,Eck.out,Eqd.out]
 have her:jh k a b d=if tJ k a b d≠0 then tJ k a b d else if dL fa=false then 6 else if dL fb=false then 6 else if fH fa then 7 else if gU qd (fa 0) (fb 0)&&gU qd (fa 1) (fb 1)&&gU qd (fa 2) (fb 2) then 0 else 6:=by
  unfold jh
  rw [Efa.out,Efb.out,Eqd.out]
 have hg:iJ k a b d=fun i=>jR qd (fa i) (fb i):=by
  funext i
  unfold iJ
  rw [Efa.out,Efb.out,Eqd.out]
 rw [hg]
 obtain ⟨er,Dt⟩:∃ y,Hid (jh k a b d=y):=⟨_,zh rfl⟩
 obtain ⟨ea,Eea⟩:∃ y,Hid (tJ k a b d=y):=⟨_,zh rfl⟩
 rw [Dt.out] at her ⊢
 rw [Eea.out] at her hea
 have U6:=zh hea
 have vZ:=zh her
 rw [Efa.out] at Uv
 rw [Efb.out] at Uu
 rw [Eqd.out] at EN HCM YB
 rw [Esa.out] at Yu Uv
 rw [Esb.out] at Ux Uu
 rw [Eck.out] at rV EN HCM YB
 rw [Ece.out] at U7 Uv Uu
 have HEG:Hid (ea≠0→er=ea):=zh fun h=>by rw [vZ.out,if_pos h]
 have aJ2:=rV
 clear hea her hg h11 Efa Efb Eqd Esa Esb Eck Ece Dt Eea aJ2
 obtain ⟨⟨a1,a2⟩,⟨a3,a4⟩,⟨a5,a6⟩⟩:=a
 obtain ⟨⟨b1,b2⟩,⟨b3,b4⟩,⟨b5,b6⟩⟩:=b
 obtain ⟨d1,d2⟩:=d
 obtain ⟨⟨o1,o2⟩,Eo⟩:∃ x:Fr,Hid (Fr.of 1=x):=⟨_,zh rfl⟩
 rw [Eo.out] at Qo HCM
 clear ht hc
 obtain ⟨w0,kF⟩:∃ y,(((w.alloc (.cells #[.string a1,.string a2,.string a3,.string a4,.string a5,.string a6] 38)).alloc (.cells #[.string b1,.string b2,.string b3,.string b4,.string b5,.string b6] 38)).alloc (.cells #[.string d1,.string d2] 36)).alloc (.cells #[.string ⟨#[]⟩,.string ⟨#[]⟩,.string ⟨#[]⟩,.string ⟨#[]⟩,.string ⟨#[]⟩,.string ⟨#[]⟩] 37)=y:=⟨_,rfl⟩
 have hb0:Below w.heap.size w w0:=by rw [← kF];exact aA
 have hxa:aB w0 w.heap.size #[.string a1,.string a2,.string a3,.string a4,.string a5,.string a6] 38:=by rw [← kF];exact aL
 have hxb:aB w0 (w.heap.size+1) #[.string b1,.string b2,.string b3,.string b4,.string b5,.string b6] 38:=by rw [← kF];exact aL
 have hxd:aB w0 (w.heap.size+1+1) #[.string d1,.string d2] 36:=by rw [← kF];exact aL
 have qP:aB w0 (w.heap.size+1+1+1) #[.string ⟨#[]⟩,.string ⟨#[]⟩,.string ⟨#[]⟩,.string ⟨#[]⟩,.string ⟨#[]⟩,.string ⟨#[]⟩] 37:=by rw [← kF];exact aB.at3 _ _ _ _ _ _
 go_enter Tryz.func36,Tryz.ntmps36
 unfold light.aY.v light.aY.cells Fr.v
 go_wp2_with fail
 clear kF
 refine (U7.out _ hb0).mono ?_
 rintro e w1 ⟨hb1,vc,rfl,hy1,hy2⟩
 have h1:Below w.heap.size w w1:=Bt hb0 hb1
 by_cases hce:ce=0
 rotate_left
 ·have hv:=hy2 hce
  subst hv
  have HE:Hid (er=ce):=zh (by
   have:ea=ce:=by rw [U6.out,if_pos hce]
   rw [HEG.out (by rw [this];exact hce),this])
  clear hy1 hy2
  go_wp2_with fail
  refine (yt _ _ _ ce hce _).mono ?_
  rintro e w2 ⟨rfl,rfl⟩
  exact ⟨rfl,by rw [HE.out];exact aU.no h1 hce⟩
 have hmv:=hy1 hce
 clear hy1 hy2
 obtain ⟨rs,hR, -⟩:=id hmv
 obtain ⟨ac,cc,rfl, -⟩:=hR
 have vY:=zh hmv
 have HCE:=zh hce
 subst hce
 clear hmv
 go_wp2_with fail
 refine (qA _ _ _ _).mono ?_
 rintro e w2 ⟨rfl,rfl⟩
 replace hxa:=hxa.later hb1
 replace hxb:=hxb.later hb1
 replace hxd:=hxd.later hb1
 replace qP:=qP.later hb1
 have cxa:=hxa.cell
 go_wp2_with fail
 refine (Yu.out _).mono ?_
 rintro e w3 ⟨rfl,hb3⟩
 have h3:Below w.heap.size w w3:=Bt h1 hb3
 by_cases hsa:sa=0
 rotate_left
 ·have HE:Hid (er=sa):=zh (by
   have:ea=sa:=by rw [U6.out,if_neg zi,if_pos hsa]
   rw [HEG.out (by rw [this];exact hsa),this])
  go_wp2_with fail
  refine (iG sa hsa _).mono ?_
  rintro e w4 ⟨rfl,rfl⟩
  exact ⟨rfl,by rw [HE.out];exact aU.no h3 hsa⟩
 subst hsa
 replace hxa:=hxa.later hb3
 replace hxb:=hxb.later hb3
 replace hxd:=hxd.later hb3
 replace qP:=qP.later hb3
 replace vY:=zh (vY.out.later hb3)
 have cxb:=hxb.cell
 clear cxa
 go_wp2_with fail
 refine (nL _).mono ?_
 rintro e w4 ⟨rfl,rfl⟩
 go_wp2_with fail
 refine (Ux.out _).mono ?_
 rintro e w5 ⟨rfl,hb5⟩
 have h5:Below w.heap.size w w5:=Bt h3 hb5
 by_cases hsb:sb=0
 rotate_left
 ·have HE:Hid (er=sb):=zh (by
   have:ea=sb:=by rw [U6.out,if_neg zi,if_neg zi,if_pos hsb]
   rw [HEG.out (by rw [this];exact hsb),this])
  go_wp2_with fail
  refine (iG sb hsb _).mono ?_
  rintro e w6 ⟨rfl,rfl⟩
  exact ⟨rfl,by rw [HE.out];exact aU.no h5 hsb⟩
 subst hsb
 replace hxa:=hxa.later hb5
 replace hxb:=hxb.later hb5
 replace hxd:=hxd.later hb5
 replace qP:=qP.later hb5
 replace vY:=zh (vY.out.later hb5)
 have cxd:=hxd.cell
 clear cxb
 go_wp2_with fail
 refine (nL _).mono ?_
 rintro e w6 ⟨rfl,rfl⟩
 go_wp2_with fail
 refine (rV.out _).mono ?_
 rintro e w7 ⟨rfl,dY⟩
 have h7:Below w.heap.size w w7:=Bt h5 dY
 by_cases hck:ck=0
 rotate_left
 ·have HE:Hid (er=ck):=zh (by
   have:ea=ck:=by rw [U6.out,if_neg zi,if_neg zi,if_neg zi,if_pos hck]
   rw [HEG.out (by rw [this];exact hck),this])
  go_wp2_with fail
  refine (iG ck hck _).mono ?_
  rintro e w8 ⟨rfl,rfl⟩
  exact ⟨rfl,by rw [HE.out];exact aU.no h7 hck⟩
 subst hck
 replace hxa:=hxa.later dY
 replace hxb:=hxb.later dY
 replace hxd:=hxd.later dY
 replace qP:=qP.later dY
 replace vY:=zh (vY.out.later dY)
 clear cxd
 go_wp2_with fail
 refine (nL _).mono ?_
 rintro e w8 ⟨rfl,rfl⟩
 go_wp2_with fail
 refine (Qo.out _ h7).mono ?_
 rintro e w9 ⟨rfl,gQ⟩
 unfold Fr.v
 go_wp2_with fail
 refine (qB ⟨o1,o2⟩ _).mono ?_
 unfold Fr.v
 rintro e wa ⟨rfl,hba⟩
 have h8a:Below w8.heap.size w8 wa:=Bt gQ hba
 have ha:Below w.heap.size w wa:=Bt h7 h8a
 replace hxa:=hxa.later h8a
 replace hxb:=hxb.later h8a
 replace hxd:=hxd.later h8a
 replace qP:=qP.later h8a
 replace vY:=zh (vY.out.later h8a)
 clear hb0 hb1 hb3 hb5 dY gQ hba h1 h3 h5 h7 h8a U7 Yu Ux rV Qo
 have cxd:=hxd.cell
 have lxd:=hxd.lt
 have hsg:=EN.out (by first|rfl|trivial)
 have hcm:=HCM.out (by first|rfl|trivial)
 obtain ⟨z1,Ez1⟩:∃ y,Hid (iA qd 0=y):=⟨_,zh rfl⟩
 obtain ⟨z2,Ez2⟩:∃ y,Hid (iA qd 1=y):=⟨_,zh rfl⟩
 rw [Ez1.out] at hsg U6
 rw [Ez2.out] at hcm U6
 have ag9:=zh hsg
 have ah4:=zh hcm
 unfold Fr.v at ag9 ah4
 have hb':Below wa.heap.size wa (wa.alloc (.cells #[.string o1,.string o2] 36)):=aA
 obtain ⟨wb,Ewb⟩:∃ y,wa.alloc (.cells #[.string o1,.string o2] 36)=y:=⟨_,rfl⟩
 have hxo:=aB.new wa #[.string o1,.string o2] 36
 rw [Ewb] at hb' hxo
 clear hsg hcm EN HCM
 replace hxa:=hxa.later hb'
 replace hxb:=hxb.later hb'
 replace hxd:=hxd.later hb'
 replace qP:=qP.later hb'
 replace vY:=zh (vY.out.later hb')
 have hbw:Below w.heap.size w wb:=Bt ha hb'
 obtain ⟨bo,Ebo⟩:∃ y,wa.heap.size=y:=⟨_,rfl⟩
 rw [Ebo] at hxo
 clear hb' ha
 replace cxd:=hxd.cell
 go_wp2_with fail
 clear Ewb Ebo
 refine (ag9.out _).mono ?_
 rintro e w3 ⟨rfl,hb3⟩
 have h3:Below w.heap.size w w3:=Bt hbw hb3
 replace hxa:=hxa.later hb3
 replace hxb:=hxb.later hb3
 replace hxd:=hxd.later hb3
 replace qP:=qP.later hb3
 replace hxo:=hxo.later hb3
 replace vY:=zh (vY.out.later hb3)
 replace cxd:=hxd.cell
 have cxo:=hxo.cell
 clear hb3 hbw
 go_wp2_with fail
 refine (mK _ _).mono ?_
 rintro e w4 ⟨rfl,rfl⟩
 by_cases hz1:z1<0
 ·have HE:Hid (er=2):=zh (by
   have:ea=2:=by rw [U6.out,if_neg zi,if_neg zi,if_neg zi,if_neg zi,if_pos (.inl hz1)]
   rw [HEG.out (by rw [this];decide),this])
  have b1:decide (z1<0)=true:=decide_eq_true hz1
  clear hz1
  go_wp2_with fail
  refine (iG 2 zd _).mono ?_
  rintro e w6 ⟨rfl,rfl⟩
  exact ⟨rfl,by rw [HE.out];exact aU.no h3 zd⟩
 have b1:decide (z1<0)=false:=decide_eq_false hz1
 go_wp2_with fail
 refine (ah4.out _).mono ?_
 rintro e w5 ⟨rfl,hb5⟩
 have h5:Below w.heap.size w w5:=Bt h3 hb5
 replace hxa:=hxa.later hb5
 replace hxb:=hxb.later hb5
 replace hxd:=hxd.later hb5
 replace qP:=qP.later hb5
 replace hxo:=hxo.later hb5
 replace vY:=zh (vY.out.later hb5)
 clear hb5 h3 cxd cxo
 go_wp2_with fail
 refine (mK _ _).mono ?_
 rintro e w6 ⟨rfl,rfl⟩
 by_cases hz2:0<z2
 ·have HE:Hid (er=2):=zh (by
   have:ea=2:=by rw [U6.out,if_neg zi,if_neg zi,if_neg zi,if_neg zi,if_pos (.inr hz2)]
   rw [HEG.out (by rw [this];decide),this])
  have b2:decide (0<z2)=true:=decide_eq_true hz2
  clear hz1 hz2
  go_wp2_with fail
  refine (iG 2 zd _).mono ?_
  rintro e w7 ⟨rfl,rfl⟩
  exact ⟨rfl,by rw [HE.out];exact aU.no h5 zd⟩
 have b2:decide (0<z2)=false:=decide_eq_false hz2
 have zW:Hid (er=if dL fa=false then 6 else if dL fb=false then 6 else if fH fa then 7 else if gU qd (fa 0) (fb 0)&&gU qd (fa 1) (fb 1)&&gU qd (fa 2) (fb 2) then 0 else 6):=zh (by
  have:ea=0:=by rw [U6.out,if_neg zi,if_neg zi,if_neg zi,if_neg zi,if_neg zo]
  rw [vZ.out,if_neg (by rw [this];simp)])
 clear hz1 hz2 U6 vZ HEG ag9 ah4 Ez1 Ez2
 have hsa:=fun va w' hb hv=>Uv.out (by first|rfl|trivial) va w' hb hv (by first|rfl|trivial)
 have hsb:=fun va w' hb hv=>Uu.out (by first|rfl|trivial) va w' hb hv (by first|rfl|trivial)
 have Yu:=zh hsa
 have Ux:=zh hsb
 obtain ⟨Dg,hdo⟩:=YB.out (by first|rfl|trivial)
 have HDQ:=zh Dg
 have HDO:=zh hdo
 clear hsa hsb Uv Uu YB Dg hdo
 have cxa:=hxa.cell
 have cxb:=hxb.cell
 have lxa:=hxa.lt
 have lxb:=hxb.lt
 unfold light.aY.v light.aY.cells at Yu Ux
 go_wp2_with fail
 obtain ⟨⟨⟨f1,f2⟩,⟨f3,f4⟩,⟨f5,f6⟩⟩,Ef⟩:∃ y:light.aY,Hid (bH fa=y):=⟨_,zh rfl⟩
 obtain ⟨⟨⟨g1,g2⟩,⟨g3,g4⟩,⟨g5,g6⟩⟩,Eg⟩:∃ y:light.aY,Hid (bH fb=y):=⟨_,zh rfl⟩
 rw [Ef.out] at Yu
 rw [Eg.out] at Ux
 refine aC [(.pure,0),(.read,1),(.pure,3),(.read,4),(.ext,2),(.ext,5),(.alloc #[.string ⟨#[]⟩,.string ⟨#[]⟩,.string ⟨#[]⟩,.string ⟨#[]⟩,.string ⟨#[]⟩,.string ⟨#[]⟩] 137,6),(.alloc #[.string ⟨#[]⟩,.string ⟨#[]⟩,.string ⟨#[]⟩,.string ⟨#[]⟩,.string ⟨#[]⟩,.string ⟨#[]⟩] 137,7),(.fin,8),(.fin,9)] zk zk zR zP ?_
 repeat (first|(refine ah rfl rfl fun J h=>?_;go_simp;refine h _ ?_;clear h J)|(refine au rfl rfl rfl rfl fun J h=>?_;go_simp;refine h _ ?_;clear h J;try go_simp))
 refine aD rfl rfl (fun w1 hb1 J hJ=>?_);go_simp
 have h61:Below w6.heap.size w6 w1:=aA
 refine (Yu.out _ w1 (Bt h5 h61) (vY.out.later h61)).mono ?_
 rintro e w2 ⟨hb2,⟨he,v,rfl,rfl⟩|⟨he,rfl⟩⟩
 rotate_left
 ·have hf:dL fa=false:=by
   cases h:dL fa with
   | false=>rfl
   | true=>rw [h] at he;exact absurd rfl he
  have HE:Hid (er=6):=zh (by rw [zW.out,if_pos hf])
  have Wp:(if dL fa=true then (0:Int) else 6)=6:=by rw [hf];rfl
  rw [Wp]
  exact ⟨rfl,by rw [HE.out];exact aU.no (Bt (Bt h5 h61) hb2) zd⟩
 have hfa:dL fa=true:=by
  cases h:dL fa with
  | true=>rfl
  | false=>rw [h] at he;cases he
 have HFA:=zh hfa
 refine hJ _ _ hb2 ?_
 clear hJ J he hfa
 have h62:Below w6.heap.size w6 w2:=Bt h61 hb2
 try unfold light.aY.v light.aY.cells
 repeat (first|(refine ah rfl rfl fun J h=>?_;go_simp;refine h _ ?_;clear h J)|(refine au rfl rfl rfl rfl fun J h=>?_;go_simp;refine h _ ?_;clear h J;try go_simp))
 refine aD rfl rfl (fun w3 hb3 J hJ=>?_);go_simp
 have h63:Below w6.heap.size w6 w3:=Bt h62 hb3
 refine (Ux.out _ w3 (Bt h5 h63) (vY.out.later h63)).mono ?_
 rintro e w4 ⟨hb4,⟨he,v,rfl,rfl⟩|⟨he,rfl⟩⟩
 rotate_left
 ·have hf:dL fb=false:=by
   cases h:dL fb with
   | false=>rfl
   | true=>rw [h] at he;exact absurd rfl he
  have HE:Hid (er=6):=zh (by rw [zW.out,if_neg (by rw [HFA.out];simp),if_pos hf])
  have Wp:(if dL fb=true then (0:Int) else 6)=6:=by rw [hf];rfl
  rw [Wp]
  exact ⟨rfl,by rw [HE.out];exact aU.no (Bt (Bt h5 h63) hb4) zd⟩
 have XZ:dL fb=true:=by
  cases h:dL fb with
  | true=>rfl
  | false=>rw [h] at he;cases he
 have HFB:=zh XZ
 refine hJ _ _ hb4 ?_
 clear hJ J he XZ
 have h64:Below w6.heap.size w6 w4:=Bt h63 hb4
 try unfold light.aY.v light.aY.cells
 repeat (first|(refine ah rfl rfl fun J h=>?_;go_simp;refine h _ ?_;clear h J)|(refine au rfl rfl rfl rfl fun J h=>?_;go_simp;refine h _ ?_;clear h J;try go_simp))
 refine aQ rfl (fun p1 w5 QF aw7 aK5 aV8 wU=>?_);go_simp;replace wU:aB _ _ _ _:=wU;have aV7:w.heap.size≤p1:=(by first|omega|exact Nat.le_trans (Below.size (B:=w.heap.size) aA) aw7)
 
 refine aQ rfl (fun p2 w7 hw7 aw6 aK4 aH5 FW=>?_);go_simp;replace FW:aB _ _ _ _:=FW;have aV6:w.heap.size≤p2:=(by first|omega|exact Nat.le_trans (Below.size (B:=w.heap.size) aA) aw6)
 replace wU:=aB.later (wU) hw7;replace Yn:=wU.cell;replace Yj:=wU.free;replace XJ:=wU.lt
 refine aJ [_,_] rfl (fun w8 kE=>?_)
 replace wU:=aB.later (wU) kE;replace Yn:=wU.cell;replace Yj:=wU.free;replace XJ:=wU.lt;replace FW:=aB.later (FW) kE;replace ax5:=FW.cell;replace ax3:=FW.free;replace ap1:=FW.lt
 have h68:Below w6.heap.size w6 w8:=aA
 have n12:p1≠p2:=fun e=>aH5 (by simp [e])
 have n21:p2≠p1:=fun e=>n12 e.symm
 have QI:w6.heap.size≤p1:=aw7
 have ge2:w6.heap.size≤p2:=aw6
 have Nq:∀ (fn:Fn) (first cap:Array Value) (w:World),(Instr.makeFunc fn first cap).run Tryz.prog w= .ok (.func fn first cap) w:=fun _ _ _ _=>rfl
 have haz:=fun w'=>Mf fa HFA.out w'
 rw [Ef.out] at haz
 have HAZ:=zh haz
 unfold light.aY.v light.aY.cells at HAZ
 obtain ⟨wn,Ewn⟩:∃ y,((((((((((((w8.setCell ⟨p1,0,none⟩ (.string f1)).setCell ⟨p1,1,none⟩ (.string f2)).setCell ⟨p1,2,none⟩ (.string f3)).setCell ⟨p1,3,none⟩ (.string f4)).setCell ⟨p1,4,none⟩ (.string f5)).setCell ⟨p1,5,none⟩ (.string f6)).setCell ⟨p2,0,none⟩ (.string g1)).setCell ⟨p2,1,none⟩ (.string g2)).setCell ⟨p2,2,none⟩ (.string g3)).setCell ⟨p2,3,none⟩ (.string g4)).setCell ⟨p2,4,none⟩ (.string g5)).setCell ⟨p2,5,none⟩ (.string g6))=y:=⟨_,rfl⟩
 have h6n:Below w6.heap.size w6 wn:=by
  rw [← Ewn]
  exact (((((((((((h68.setCell QI _).setCell QI _).setCell QI _).setCell QI _).setCell QI _).setCell QI _).setCell ge2 _).setCell ge2 _).setCell ge2 _).setCell ge2 _).setCell ge2 _).setCell ge2 _
 have hX1:aB wn p1 #[.string f1,.string f2,.string f3,.string f4,.string f5,.string f6] 137:=by
  rw [← Ewn]
  exact (((((((((((wU.set 0 _).set 1 _).set 2 _).set 3 _).set 4 _).set 5 _).setOther _ n12).setOther _ n12).setOther _ n12).setOther _ n12).setOther _ n12).setOther _ n12
 have hX2:aB wn p2 #[.string g1,.string g2,.string g3,.string g4,.string g5,.string g6] 137:=by
  rw [← Ewn]
  exact (((((((((((FW.setOther _ n21).setOther _ n21).setOther _ n21).setOther _ n21).setOther _ n21).setOther _ n21).set 0 _).set 1 _).set 2 _).set 3 _).set 4 _).set 5 _
 have dW:=hX1.cell
 have dU:=hX1.lt
 clear h61 h62 h63 h64 h68 haz hb1 hb2 hb3 hb4 kE cxa cxb lxa lxb
 go_wp2_with fail
 clear Yn Yj XJ ax5 ax3 ap1 wU FW Ewn
 refine (HAZ.out _).mono ?_
 rintro e wz ⟨rfl,hbz⟩
 have h6z:Below w6.heap.size w6 wz:=Bt h6n hbz
 have hwz:Below w.heap.size w wz:=Bt h5 h6z
 by_cases hz0:fH fa=true
 ·have HE:Hid (er=7):=zh (by rw [zW.out,if_neg (by rw [HFA.out];simp),if_neg (by rw [HFB.out];simp),if_pos hz0])
  rw [hz0]
  go_wp2_with fail
  refine (iG 7 zd _).mono ?_
  rintro e w7 ⟨rfl,rfl⟩
  exact ⟨rfl,by rw [HE.out];exact aU.no hwz zd⟩
 have hz1:fH fa=false:=by simpa using hz0
 have HZF:=zh hz1
 rw [hz1]
 have UC:Hid (er=if gU qd (fa 0) (fb 0)&&gU qd (fa 1) (fb 1)&&gU qd (fa 2) (fb 2) then 0 else 6):=zh (by
  rw [zW.out,if_neg (by rw [HFA.out];simp),if_neg (by rw [HFB.out];simp),if_neg hz0])
 have HX1:=zh (hX1.later hbz)
 have Yr:=zh (hX2.later hbz)
 have HXD:=zh (hxd.later h6z)
 have HXO:=zh (hxo.later h6z)
 have HXR:=zh (qP.later h6z)
 clear hz0 hz1 hX1 hX2 dW dU hxa hxb hxd hxo qP h6n h6z hbz h5 vY HAZ Yu Ux zW
 go_wp2_with fail
 have Yy:Hid (∀ k:Nat,k<3→∀ W,Below wz.heap.size wz W→Calls Tryz.prog 86 #[.int .i64 (k:Int),.pointer (some ⟨p2,0,none⟩),.pointer (some ⟨p1,0,none⟩),.pointer (some ⟨w.heap.size+1+1,0,none⟩),.pointer (some ⟨bo,0,none⟩)] W (aU W (if gU qd (fa k) (fb k) then 0 else 6) (fun v _=>v=(Fr.of (jR qd (fa k) (fb k))).v))):=zh fun k hk W hW=>by
  have hfa:=HFA.out
  have XZ:=HFB.out
  have hz:=HZF.out
  unfold dL at hfa XZ
  unfold fH at hz
  simp only [Bool.and_eq_true] at hfa XZ
  simp only [Bool.or_eq_false_iff,decide_eq_false_iff_not] at hz
  have hx1:=HX1.out.later hW
  have hx2:=Yr.out.later hW
  have hxd:=HXD.out.later hW
  have hxo:=HXO.out.later hW
  have e1:(bH fa).cells=#[.string f1,.string f2,.string f3,.string f4,.string f5,.string f6]:=by rw [Ef.out];rfl
  have e2:(bH fb).cells=#[.string g1,.string g2,.string g3,.string g4,.string g5,.string g6]:=by rw [Eg.out];rfl
  rw [← e1] at hx1
  rw [← e2] at hx2
  have e3:#[Value.string d1,.string d2]=#[.string (Fr.of qd).n,.string (Fr.of qd).d]:=by rw [← HDQ.out]
  have e4:#[Value.string o1,.string o2]=#[.string (Fr.of 1).n,.string (Fr.of 1).d]:=by rw [Eo.out]
  rw [e3] at hxd
  rw [e4] at hxo
  have hk3:k=0∨k=1∨k=2:=by omega
  refine WE p2 p1 _ bo k fb fa qd W hx2 hx1 hxd hxo hk ?_ ?_ ?_ HDO.out (HT.out.later (Bt hwz hW))
  ·rcases hk3 with rfl|rfl|rfl
   ·exact XZ.1.1
   ·exact XZ.1.2
   ·exact XZ.2
  ·rcases hk3 with rfl|rfl|rfl
   ·exact hfa.1.1
   ·exact hfa.1.2
   ·exact hfa.2
  ·rcases hk3 with rfl|rfl|rfl
   ·exact hz.1.1
   ·exact hz.1.2
   ·exact hz.2
 have h0z:Below wz.heap.size wz (wz.alloc (.cells #[.string ⟨#[]⟩,.string ⟨#[]⟩,.string ⟨#[]⟩,.string ⟨#[]⟩,.string ⟨#[]⟩,.string ⟨#[]⟩] 37)):=aA
 have HB0:=zh (aB.new wz #[.string ⟨#[]⟩,.string ⟨#[]⟩,.string ⟨#[]⟩,.string ⟨#[]⟩,.string ⟨#[]⟩,.string ⟨#[]⟩] 37)
 obtain ⟨gq,Egq⟩:∃ y:Nat→Rat,Hid ((fun k:Nat=>jR qd (fa k) (fb k))=y):=⟨_,zh rfl⟩
 obtain ⟨ok,Eok⟩:∃ y:Nat→Bool,Hid ((fun k:Nat=>gU qd (fa k) (fb k))=y):=⟨_,zh rfl⟩
 have e1:∀ k:Nat,jR qd (fa k) (fb k)=gq k:=fun k=>by rw [← Egq.out]
 have e2:∀ k:Nat,gU qd (fa k) (fb k)=ok k:=fun k=>by rw [← Eok.out]
 simp only [e1,e2] at Yy UC
 clear HX1 Yr HXD HXO e1 e2 Eok HFA HFB HZF HDQ HDO Ef Eg Eo Nq
 go_loopw [61] (fun iv wr=>∃ (k:Nat) (s1 s2 s3 s4 s5 s6:ByteArray),iv= .int .i64 (k:Int)∧k≤3∧Hid (aB wr wz.heap.size #[.string s1,.string s2,.string s3,.string s4,.string s5,.string s6] 37)∧Hid ((0<k→(⟨s1,s2⟩:Fr)=Fr.of (gq 0))∧(1<k→(⟨s3,s4⟩:Fr)=Fr.of (gq 1))∧(2<k→(⟨s5,s6⟩:Fr)=Fr.of (gq 2))∧∀ j,j<k→ok j=true)∧Below wz.heap.size wz wr) (fun iv _=>3 - (intOf iv).toNat)
 case atStart=>exact ⟨0,_,_,_,_,_,_,rfl,by omega,HB0,zh ⟨fun h=>by omega,fun h=>by omega,fun h=>by omega,fun j h=>by omega⟩,h0z⟩
 case round =>
  obtain ⟨k,s1,s2,s3,s4,s5,s6,rfl,hk,HB,HK,hb⟩:=hrel
  have c14:=HB.out.cell
  have l14:=HB.out.lt
  rcases Nat.lt_or_ge k 3 with hlt|hge
  ·have hk3:k=0∨k=1∨k=2:=by omega
   rcases hk3 with rfl|rfl|rfl
   ·have hcall:=Yy.out 0 zo _ hb
    have zy:=zh hcall
    clear hcall
    go_wp2_with fail
    refine zy.out.mono ?_
    rintro e w2 ⟨hb2,⟨he,v,rfl,rfl⟩|⟨he,rfl⟩⟩
    rotate_left
    ·have hf:ok 0=false:=by
      cases h:ok 0 with
      | false=>rfl
      | true=>rw [h] at he;exact absurd rfl he
     have HE:Hid (er=6):=zh (by rw [UC.out,hf];simp)
     have Wp:(if ok 0=true then (0:Int) else 6)=6:=by rw [hf];rfl
     rw [Wp]
     exact ⟨rfl,by rw [HE.out];exact aU.no (Bt (Bt hwz hb) hb2) zd⟩
    have hok:ok 0=true:=by
     cases h:ok 0 with
     | true=>rfl
     | false=>rw [h] at he;cases he
    have CB:=zh hok
    obtain ⟨⟨t1,t2⟩,Yt⟩:∃ y:Fr,Hid (y=Fr.of (gq 0)):=⟨_,zh rfl⟩
    rw [← Yt.out]
    unfold Fr.v
    have hB2:=HB.out.later hb2
    have c2:=hB2.cell
    have f2:=hB2.free
    clear he hok zy c14 l14
    go_wp2_with fail
    go_roundw
    case rel =>
     refine ⟨0+1,t1,t2,s3,s4,s5,s6,by go_num,by omega,zh ((hB2.set 0 _).set 1 _),zh ⟨fun _=>Yt.out,fun h=>by omega,fun h=>by omega,fun j hj=>?_⟩,((Bt hb hb2).setCell (Nat.le_refl _) _).setCell (Nat.le_refl _) _⟩
     rcases Nat.lt_or_ge j 0 with h|h
     ·exact HK.out.2.2.2 j h
     ·obtain rfl:j=0:=by omega
      exact CB.out
    case measure=>simp [intOf]
   ·have hcall:=Yy.out 1 zo _ hb
    have zy:=zh hcall
    clear hcall
    go_wp2_with fail
    refine zy.out.mono ?_
    rintro e w2 ⟨hb2,⟨he,v,rfl,rfl⟩|⟨he,rfl⟩⟩
    rotate_left
    ·have hf:ok 1=false:=by
      cases h:ok 1 with
      | false=>rfl
      | true=>rw [h] at he;exact absurd rfl he
     have HE:Hid (er=6):=zh (by rw [UC.out,hf];simp)
     have Wp:(if ok 1=true then (0:Int) else 6)=6:=by rw [hf];rfl
     rw [Wp]
     exact ⟨rfl,by rw [HE.out];exact aU.no (Bt (Bt hwz hb) hb2) zd⟩
    have hok:ok 1=true:=by
     cases h:ok 1 with
     | true=>rfl
     | false=>rw [h] at he;cases he
    have CB:=zh hok
    obtain ⟨⟨t1,t2⟩,Yt⟩:∃ y:Fr,Hid (y=Fr.of (gq 1)):=⟨_,zh rfl⟩
    rw [← Yt.out]
    unfold Fr.v
    have hB2:=HB.out.later hb2
    have c2:=hB2.cell
    have f2:=hB2.free
    clear he hok zy c14 l14
    go_wp2_with fail
    go_roundw
    case rel =>
     refine ⟨1+1,s1,s2,t1,t2,s5,s6,by go_num,by omega,zh ((hB2.set 2 _).set 3 _),zh ⟨fun _=>HK.out.1 zo,fun _=>Yt.out,fun h=>by omega,fun j hj=>?_⟩,((Bt hb hb2).setCell (Nat.le_refl _) _).setCell (Nat.le_refl _) _⟩
     rcases Nat.lt_or_ge j 1 with h|h
     ·exact HK.out.2.2.2 j h
     ·obtain rfl:j=1:=by omega
      exact CB.out
    case measure=>simp [intOf]
   ·have hcall:=Yy.out 2 zo _ hb
    have zy:=zh hcall
    clear hcall
    go_wp2_with fail
    refine zy.out.mono ?_
    rintro e w2 ⟨hb2,⟨he,v,rfl,rfl⟩|⟨he,rfl⟩⟩
    rotate_left
    ·have hf:ok 2=false:=by
      cases h:ok 2 with
      | false=>rfl
      | true=>rw [h] at he;exact absurd rfl he
     have HE:Hid (er=6):=zh (by rw [UC.out,hf];simp)
     have Wp:(if ok 2=true then (0:Int) else 6)=6:=by rw [hf];rfl
     rw [Wp]
     exact ⟨rfl,by rw [HE.out];exact aU.no (Bt (Bt hwz hb) hb2) zd⟩
    have hok:ok 2=true:=by
     cases h:ok 2 with
     | true=>rfl
     | false=>rw [h] at he;cases he
    have CB:=zh hok
    obtain ⟨⟨t1,t2⟩,Yt⟩:∃ y:Fr,Hid (y=Fr.of (gq 2)):=⟨_,zh rfl⟩
    rw [← Yt.out]
    unfold Fr.v
    have hB2:=HB.out.later hb2
    have c2:=hB2.cell
    have f2:=hB2.free
    clear he hok zy c14 l14
    go_wp2_with fail
    go_roundw
    case rel =>
     refine ⟨2+1,s1,s2,s3,s4,t1,t2,by go_num,by omega,zh ((hB2.set 4 _).set 5 _),zh ⟨fun _=>HK.out.1 zo,fun _=>HK.out.2.1 zo,fun _=>Yt.out,fun j hj=>?_⟩,((Bt hb hb2).setCell (Nat.le_refl _) _).setCell (Nat.le_refl _) _⟩
     rcases Nat.lt_or_ge j 2 with h|h
     ·exact HK.out.2.2.2 j h
     ·obtain rfl:j=2:=by omega
      exact CB.out
    case measure=>simp [intOf]
  ·have hk3:k=3:=by omega
   subst hk3
   obtain ⟨q1,q2,q3,q4⟩:=HK.out
   have HE:Hid (er=0):=zh (by rw [UC.out,q4 0 zo,q4 1 zo,q4 2 zo];rfl)
   have HTV:Hid ((bH gq).v= .agg #[.string s1,.string s2,.string s3,.string s4,.string s5,.string s6]):=zh (by
    unfold bH
    rw [← q1 zo,← q2 zo,← q3 zo]
    rfl)
   have hr:=HXR.out.later hb
   have cr:=hr.cell
   have fr:=hr.free
   have HGQ:Hid ((fun i=>jR qd (fa i) (fb i))=gq):=Egq
   clear q1 q2 q3 q4
   go_wp2_with fail
   refine bP rfl rfl ((((((hr.set 0 _).set 1 _).set 2 _).set 3 _).set 4 _).set 5 _) Tryz.underlying37 rfl zk ?_
   rw [HE.out,HGQ.out]
   refine aU.yes ?_ (by show _=(bH gq).v;rw [HTV.out];rfl)
   have hww:=Bt hwz hb
   have hsz:w.heap.size≤w.heap.size+1+1+1:=by omega
   exact (((((hww.setCell hsz _).setCell hsz _).setCell hsz _).setCell hsz _).setCell hsz _).setCell hsz _
def wB (w:World) (pk pa pb pd:Nat) (k:Int) (a b:light.aY) (d:Fr):Prop:=aB w pk #[.int .i64 k] 3∧aB w pa a.cells 38∧aB w pb b.cells 38∧aB w pd #[.string d.n,.string d.d] 36
theorem wB.later {w w':World} {pk pa pb pd:Nat} {k:Int} {a b:light.aY} {d:Fr} (h:wB w pk pa pb pd k a b d) (hb:Below w.heap.size w w'):wB w' pk pa pb pd k a b d:=⟨h.1.later hb,h.2.1.later hb,h.2.2.1.later hb,h.2.2.2.later hb⟩
theorem PZ (pk pa pb pd:Nat) (k:Int) (a b:light.aY) (d:Fr) (w:World) (h:wB w pk pa pb pd k a b d) (ht:pR.Pow w) (hc:kU w) :
  Calls Tryz.prog 71 #[.pointer (some ⟨pk,0,none⟩),.pointer (some ⟨pa,0,none⟩),.pointer (some ⟨pb,0,none⟩),.pointer (some ⟨pd,0,none⟩)] w (aU w (jh k a b d) (fun v _=>v=(bH (iJ k a b d)).v)):=by
 have HG:=zh (fun w' (hb:Below w.heap.size w w')=>I6 k a b d w' (ht.later hb) (hc.later hb))
 obtain ⟨er,Dt⟩:∃ y,Hid (jh k a b d=y):=⟨_,zh rfl⟩
 obtain ⟨⟨⟨q1,q2⟩,⟨q3,q4⟩,⟨q5,q6⟩⟩,EG⟩:∃ y:light.aY,Hid (bH (iJ k a b d)=y):=⟨_,zh rfl⟩
 rw [Dt.out,EG.out] at HG ⊢
 obtain ⟨hk,ha,hb,hd⟩:=h
 obtain ⟨⟨a1,a2⟩,⟨a3,a4⟩,⟨a5,a6⟩⟩:=a
 obtain ⟨⟨b1,b2⟩,⟨b3,b4⟩,⟨b5,b6⟩⟩:=b
 obtain ⟨d1,d2⟩:=d
 unfold light.aY.v light.aY.cells Fr.v at HG
 unfold light.aY.cells at ha hb
 have ck:=hk.cell
 have ca:=ha.cell
 have cb:=hb.cell
 have cd:=hd.cell
 have lk:=hk.lt
 have la:=ha.lt
 have lb:=hb.lt
 have ld:=hd.lt
 clear ht hc hk ha hb hd Dt EG
 have hb0:Below w.heap.size w (w.alloc (.cells #[.string ⟨#[]⟩,.string ⟨#[]⟩,.string ⟨#[]⟩,.string ⟨#[]⟩,.string ⟨#[]⟩,.string ⟨#[]⟩] 37)):=aA
 have hr0:=aB.new w #[.string ⟨#[]⟩,.string ⟨#[]⟩,.string ⟨#[]⟩,.string ⟨#[]⟩,.string ⟨#[]⟩,.string ⟨#[]⟩] 37
 go_enter Tryz.func71,Tryz.ntmps71
 go_wp2_with fail
 refine (HG.out _ hb0).mono ?_
 rintro e w1 ⟨hb1,⟨rfl,v,rfl,rfl⟩|⟨he,rfl⟩⟩
 ·have hr1:=hr0.later hb1
  have cr:=hr1.cell
  have fr:=hr1.free
  go_wp2_with fail
  refine bP rfl rfl ((((((hr1.set 0 _).set 1 _).set 2 _).set 3 _).set 4 _).set 5 _) Tryz.underlying37 rfl zk ?_
  have hw:=Bt hb0 hb1
  have hsz:w.heap.size≤w.heap.size:=Nat.le_refl _
  exact aU.yes ((((((hw.setCell hsz _).setCell hsz _).setCell hsz _).setCell hsz _).setCell hsz _).setCell hsz _) rfl
 ·exact ⟨rfl,aU.no (Bt hb0 hb1) he⟩
theorem UH (k:Int) (a b:light.aY) (d:Fr) (w:World) (ht:pR.Pow w) (hc:kU w) :
  Calls Tryz.prog 27 #[.int .i64 k,a.v,b.v,d.v] w (fO w (jh k a b d) (bH (iJ k a b d))):=by
 have Nq:∀ (fn:Fn) (first cap:Array Value) (w:World),(Instr.makeFunc fn first cap).run Tryz.prog w= .ok (.func fn first cap) w:=fun _ _ _ _=>rfl
 obtain ⟨w0,kF⟩:∃ y,((((w.alloc (.cells #[.int .i64 k] 3)).alloc (.cells a.cells 38)).alloc (.cells b.cells 38)).alloc (.cells #[.string d.n,.string d.d] 36)).alloc (.cells #[.string ⟨#[]⟩,.string ⟨#[]⟩,.string ⟨#[]⟩,.string ⟨#[]⟩,.string ⟨#[]⟩,.string ⟨#[]⟩] 37)=y:=⟨_,rfl⟩
 have hb0:Below w.heap.size w w0:=by rw [← kF];exact aA
 have hA:wB w0 w.heap.size (w.heap.size+1) (w.heap.size+1+1) (w.heap.size+1+1+1) k a b d:=by
  rw [← kF]
  exact ⟨aL,aL,aL,(aB.at3 _ _ _ _ _ _).alloc _⟩
 have hr0:aB w0 (w.heap.size+1+1+1+1) #[.string ⟨#[]⟩,.string ⟨#[]⟩,.string ⟨#[]⟩,.string ⟨#[]⟩,.string ⟨#[]⟩,.string ⟨#[]⟩] 37:=by rw [← kF];exact aB.pW zi
 obtain ⟨er,Dt⟩:∃ y,Hid (jh k a b d=y):=⟨_,zh rfl⟩
 obtain ⟨g,Eg⟩:∃ y:light.aY,Hid (bH (iJ k a b d)=y):=⟨_,zh rfl⟩
 have hat:=JE 71 #[.pointer (some ⟨w.heap.size,0,none⟩),.pointer (some ⟨w.heap.size+1,0,none⟩),.pointer (some ⟨w.heap.size+1+1,0,none⟩),.pointer (some ⟨w.heap.size+1+1+1,0,none⟩)] (jh k a b d) (bH (iJ k a b d)) w0
  (fun W hW=>PZ _ _ _ _ k a b d W (hA.later hW) ((ht.later hb0).later hW) ((hc.later hb0).later hW)) (fun args W=>enters_of Tryz.func71 zk rfl args W)
 rw [Dt.out,Eg.out] at hat ⊢
 have HAT:=zh hat
 obtain ⟨gg,Egg⟩:∃ y:light.aY,Hid ((if er=0 then g else qz)=y):=⟨_,zh rfl⟩
 obtain ⟨⟨a1,a2⟩,⟨a3,a4⟩,⟨a5,a6⟩⟩:=a
 obtain ⟨⟨b1,b2⟩,⟨b3,b4⟩,⟨b5,b6⟩⟩:=b
 obtain ⟨d1,d2⟩:=d
 unfold light.aY.cells at kF
 simp only at kF
 have HR:Hid (fO w er g=fun e w'=>Below w.heap.size w w'∧e= .returned (.tuple #[gg.v,.int .i64 er])):=zh (by unfold fO;rw [Egg.out])
 have HR0:Hid (fO w0 er g=fun e w'=>Below w0.heap.size w0 w'∧e= .returned (.tuple #[gg.v,.int .i64 er])):=zh (by unfold fO;rw [Egg.out])
 rw [HR.out]
 rw [HR0.out] at HAT
 obtain ⟨⟨g1,g2⟩,⟨g3,g4⟩,⟨g5,g6⟩⟩:=gg
 unfold light.aY.v light.aY.cells at HAT ⊢
 clear hat ht hc hA HR HR0 Egg Dt Eg
 go_enter Tryz.func27,Tryz.ntmps27
 unfold Fr.v
 go_wp2_with fail
 clear kF
 refine HAT.out.mono ?_
 rintro e w1 ⟨hb1,rfl⟩
 have hr1:=hr0.later hb1
 have cr:=hr1.cell
 have fr:=hr1.free
 clear HAT
 go_wp2_with fail
 refine aP rfl rfl ((((((hr1.set 0 _).set 1 _).set 2 _).set 3 _).set 4 _).set 5 _) Tryz.underlying37 rfl zk ?_
 have hw:=Bt hb0 hb1
 have hsz:w.heap.size≤w.heap.size+1+1+1+1:=by omega
 exact ⟨(((((hw.setCell hsz _).setCell hsz _).setCell hsz _).setCell hsz _).setCell hsz _).setCell hsz _,rfl⟩
end Go.Proofs.adapt
