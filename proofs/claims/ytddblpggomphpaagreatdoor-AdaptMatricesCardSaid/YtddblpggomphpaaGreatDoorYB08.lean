/- Lemmas for the proof. No condition. -/
import Derived.Test.YtddblpggomphpaaGreatDoorYB01
import Derived.Test.YtddblpggomphpaaGreatDoorYB02
import Derived.Test.YtddblpggomphpaaGreatDoorYB04
import Derived.Test.YtddblpggomphpaaGreatDoorYB07
import Derived.Test.YtddblpggomphpaaGreatDoorProg
import Derived.RangeFuncBox
import Derived.RangeFuncLeaves
import Derived.RangeFuncFrom
import Derived.Shelf.Abstract
import Derived.WalkKit
import Derived.OwnWalkIn
import Derived.TacticsInMore
import Derived.LoopNIn
import Derived.LoopIn
import Derived.RangeFuncNested
import Derived.RangeFuncBound
import Derived.RangeFuncCalls
import Derived.WalkMore
import Derived.Defers
import Derived.Recover
import Derived.Tactics2
set_option linter.unusedVariables false
set_option linter.unusedSimpArgs false
set_option maxRecDepth 100000
set_option maxHeartbeats 16000000
namespace Go.Proofs.light
open Go Go.RowKit Go.SW Go.Num Go.Mem Go.Proofs Go.Dec Go.dx
theorem F4 (v:Value) (l:List Fr) (T:TypeId) (w:World) (h:jL w T v l) :
  Calls Tryz.prog 113 #[v] w (fun e w'=>e= .returned (.int .i64 (dK l))∧Below w.heap.size w w'):=by
 obtain ⟨a,cap,rfl,hc1,hc2,hread⟩:=h.read
 have H:=zh hread
 clear h hread
 go_enter Tryz.func113,Tryz.ntmps113
 go_wp2_with fail
 go_loopw [8] (fun iv wr=>∃ k:Nat,iv= .int .i64 (k:Int)∧k≤l.length∧Hid (∀ j (h:j<l.length),j<k→(rd l[j]).isSome=true)∧Below w.heap.size w wr) (fun iv _=>l.length - (intOf iv).toNat)
 case atStart=>exact ⟨0,rfl,by omega,zh (fun j _ h=>by omega),Below.refl _ _⟩
 case round =>
  obtain ⟨k,rfl,hk,HK,hb⟩:=hrel
  rcases Nat.lt_or_ge k l.length with hlt|hge
  ·obtain ⟨b,off,rfl,hbl,hx1,hx2⟩:=H.out k hlt
   have hc1:=(hb.cell (p:=⟨b,off+k*2,none⟩) hbl).trans hx1
   have hc2:=(hb.cell (p:=⟨b,off+k*2+1,none⟩) hbl).trans hx2
   clear hx1 hx2
   have hck:=dG.qA l[k]
   generalize hlk:l[k]=lk at *
   obtain ⟨s,t⟩:=lk
   cases hv:(rd ⟨s,t⟩).isSome with
   | true =>
    rw [tJ hv] at hck
    have rO:Hid (∀ w,Calls Tryz.prog 81 #[.agg #[.string s,.string t]] w (fun e w'=>e= .returned (.int .i64 0)∧Below w.heap.size w w')):=zh hck
    have Xe:=zh hlk
    have HV:=zh hv
    clear hck hlk hv
    go_wp2_with fail
    refine (rO.out _).mono ?_
    rintro e v1 ⟨rfl,hc1⟩
    go_wp2_with fail
    go_roundw
    case rel =>
     refine ⟨k+1,by go_num,by omega,zh fun j hj hjk=>?_,Bt hb aA⟩
     rcases Nat.lt_or_ge j k with h|h
     ·exact HK.out j hj h
     ·obtain rfl:j=k:=by omega
      rw [Xe.out]
      exact HV.out
    case measure=>exact zM
   | false =>
    rw [Lm hv] at hck
    have rO:Hid (∀ w,Calls Tryz.prog 81 #[.agg #[.string s,.string t]] w (fun e w'=>e= .returned (.int .i64 20)∧Below w.heap.size w w')):=zh hck
    have hno:dK l=20:=by
     unfold dK
     rw [if_neg]
     intro h
     have:=List.all_eq_true.1 h l[k] (List.getElem_mem _)
     rw [hlk,hv] at this
     cases this
    have Qm:=zh hno
    clear hck hlk hv hno
    go_wp2_with fail
    refine (rO.out _).mono ?_
    rintro e v1 ⟨rfl,hc1⟩
    go_wp2_with fail
    go_ret
    exact ⟨by rw [Qm.out];rfl,Bt hb aA⟩
  ·have hyes:dK l=0:=by
    unfold dK
    rw [if_pos]
    rw [List.all_eq_true]
    intro x hx
    obtain ⟨j,hj,rfl⟩:=List.getElem_of_mem hx
    exact HK.out j hj zo
   have Di:=zh hyes
   clear hyes
   obtain rfl:k=l.length:=by omega
   go_wp2_with fail
   go_ret
   exact ⟨by rw [Di.out];rfl,hb⟩
end Go.Proofs.light
namespace Go.Proofs.light
open Go Go.RowKit Go.Shelf Go.SW Go.Num Go.Mem Go.Proofs Go.Dec Go.dx
attribute [local go_sem] Oper.semAt_some
structure aW where
 x:Fr
 y:Fr
 z:Fr
deriving DecidableEq
def aW.cells (t:aW):Array Value:=#[.string t.x.n,.string t.x.d,.string t.y.n,.string t.y.d,.string t.z.n,.string t.z.d]
def aW.v (t:aW):Value:=.agg t.cells
def aW.get (t:aW) (i:Nat):Fr:=if i=0 then t.x else if i=1 then t.y else t.z
def aW.list (t:aW):List Fr:=[t.x,t.y,t.z]
def enc (t:aW) (k:Fin 3):Array Value:=#[.int .i64 (k.1:Int),(t.get k.1).v]
def upto (k:Nat) (h:k≤3):List (Fin 3):=List.ofFn (n:=k) fun i=>⟨i.1,Nat.lt_of_lt_of_le i.2 h⟩
theorem qg {k:Nat} (h:k+1≤3):upto (k+1) h=upto k zo++[⟨k,h⟩]:=by
 unfold upto
 rw [List.ofFn_succ_last]
 rfl
theorem iV {k:Nat} (h:k≤3):(upto k h).length=k:=by simp [upto]
theorem Zq (a b c d e f:ByteArray) (w:World):(Instr.index 38 (.agg #[.string a,.string b,.string c,.string d,.string e,.string f]) (.int .i64 0)).run Tryz.prog w= .ok (.agg #[.string a,.string b]) w:=by kernel_rfl
theorem Zp (a b c d e f:ByteArray) (w:World):(Instr.index 38 (.agg #[.string a,.string b,.string c,.string d,.string e,.string f]) (.int .i64 1)).run Tryz.prog w= .ok (.agg #[.string c,.string d]) w:=by kernel_rfl
theorem Zo (a b c d e f:ByteArray) (w:World):(Instr.index 38 (.agg #[.string a,.string b,.string c,.string d,.string e,.string f]) (.int .i64 2)).run Tryz.prog w= .ok (.agg #[.string e,.string f]) w:=by kernel_rfl
theorem Ig (F:Fence) (n:Nat) (hf:F.fn 165) (hro:F.round=none) (hn:1≤n) (l Bs n₀:Nat) (a b c d e f:ByteArray) (J Jx:List (Fin 3)→World→Prop) (B₀:Nat) (hJ0:AbidesFrom B₀ J)
  (hY:∀ pre x W,J pre W→pre.length<3→YieldAt F (n - 1) Tryz.prog l (enc ⟨⟨a,b⟩,⟨c,d⟩,⟨e,f⟩⟩ x) W fun en W' =>
   (en= .returned (.bool true)∧J (pre++[x]) W'∧Below n₀ W W')∨(en= .returned (.bool false)∧Jx (pre++[x]) W'))
  (W:World) (hn₀:n₀≤W.heap.size) (hBs:∀ o,W.cell? ⟨Bs,o,none⟩=#[Value.string a,.string b,.string c,.string d,.string e,.string f][o]?) (h0:J [] W) :
  CallsIn F n Tryz.prog 165 #[.func (.yield l) #[] #[],.pointer (some ⟨Bs,0,none⟩)] W fun en W'=>(∃ v,en= .returned v) ∧
   ((∃ ys,ys=upto 3 (Nat.le_refl _)∧J ys W')∨(∃ pre,True∧Jx pre W')):=by
 have i0:=Zq a b c d e f
 have i1:=Zp a b c d e f
 have i2:=Zo a b c d e f
 refine callsIn_of_wp Tryz.func165 rfl hf ?_ hro
 simp only [Tryz.ntmps165,List.size_toArray,List.length_cons,List.length_nil,Nat.reduceAdd,Nat.reduceSub,Array.replicate_succ,Array.replicate_zero,List.push_toArray,List.append_toArray,List.nil_append,List.cons_append]
 gi_wp2
 gi_loopw [6] (fun i wr=>∃ (k:Nat) (hk:k≤3),i= .int .i64 k∧J (upto k hk) wr∧Below n₀ W wr)
  (fun i _=>3 - (intOf i).toNat)
 case atStart=>exact ⟨0,Nat.zero_le _,rfl,h0,Below.refl _ _⟩
 case round =>
  obtain ⟨k,hk,rfl,hJs,hnx⟩:=hrel
  by_cases hlt:k<3
  ·have hkk:k=0∨k=1∨k=2:=by omega
   rcases hkk with rfl|rfl|rfl
   ·have hJ1:J (upto 0 hk) (wr.alloc (.cells #[.string a,.string b] 36)):=hJ0 _ _ _ none hJs (World.grownBy_alloc _ _ none) (fun r e=>by cases e)
    have hB1:Below n₀ W (wr.alloc (.cells #[.string a,.string b] 36)):=hnx.alloc (Nat.le_trans hn₀ hnx.size) _
    obtain ⟨fn,tmps,assign,body,hy,hR⟩:=hY _ ⟨0,hlt⟩ _ hJ1 (by rw [iV];exact hlt)
    have hy2:(Instr.yield l #[Value.int IntKind.i64 0,Value.agg #[Value.string a,Value.string b]]).run Tryz.prog (wr.alloc (.cells #[.string a,.string b] 36))=_:=hy
    clear hy hY
    gi_wp2
    refine hR.mono ?_
    rintro e W3 (⟨rfl,hJ3,hk3⟩|⟨rfl,hJx3⟩)
    ·gi_wp2
     go_roundw
     case rel=>exact ⟨0+1,hlt,by simp,by rw [qg];exact hJ3,hB1.trans hk3⟩
     case measure=>simp [intOf]
    ·gi_wp2
     refine bodyPost_ret (results_none rfl _ _ _) rfl ?_
     exact ⟨⟨_,rfl⟩,.inr ⟨_,trivial,hJx3⟩⟩
   ·have hJ1:J (upto 1 hk) (wr.alloc (.cells #[.string c,.string d] 36)):=hJ0 _ _ _ none hJs (World.grownBy_alloc _ _ none) (fun r e=>by cases e)
    have hB1:Below n₀ W (wr.alloc (.cells #[.string c,.string d] 36)):=hnx.alloc (Nat.le_trans hn₀ hnx.size) _
    obtain ⟨fn,tmps,assign,body,hy,hR⟩:=hY _ ⟨1,hlt⟩ _ hJ1 (by rw [iV];exact hlt)
    have hy2:(Instr.yield l #[Value.int IntKind.i64 1,Value.agg #[Value.string c,Value.string d]]).run Tryz.prog (wr.alloc (.cells #[.string c,.string d] 36))=_:=hy
    clear hy hY
    gi_wp2
    refine hR.mono ?_
    rintro e W3 (⟨rfl,hJ3,hk3⟩|⟨rfl,hJx3⟩)
    ·gi_wp2
     go_roundw
     case rel=>exact ⟨1+1,hlt,by simp,by rw [qg];exact hJ3,hB1.trans hk3⟩
     case measure=>simp [intOf]
    ·gi_wp2
     refine bodyPost_ret (results_none rfl _ _ _) rfl ?_
     exact ⟨⟨_,rfl⟩,.inr ⟨_,trivial,hJx3⟩⟩
   ·have hJ1:J (upto 2 hk) (wr.alloc (.cells #[.string e,.string f] 36)):=hJ0 _ _ _ none hJs (World.grownBy_alloc _ _ none) (fun r e=>by cases e)
    have hB1:Below n₀ W (wr.alloc (.cells #[.string e,.string f] 36)):=hnx.alloc (Nat.le_trans hn₀ hnx.size) _
    obtain ⟨fn,tmps,assign,body,hy,hR⟩:=hY _ ⟨2,hlt⟩ _ hJ1 (by rw [iV];exact hlt)
    have hy2:(Instr.yield l #[Value.int IntKind.i64 2,Value.agg #[Value.string e,Value.string f]]).run Tryz.prog (wr.alloc (.cells #[.string e,.string f] 36))=_:=hy
    clear hy hY
    gi_wp2
    refine hR.mono ?_
    rintro e W3 (⟨rfl,hJ3,hk3⟩|⟨rfl,hJx3⟩)
    ·gi_wp2
     go_roundw
     case rel=>exact ⟨2+1,hlt,by simp,by rw [qg];exact hJ3,hB1.trans hk3⟩
     case measure=>simp [intOf]
    ·gi_wp2
     refine bodyPost_ret (results_none rfl _ _ _) rfl ?_
     exact ⟨⟨_,rfl⟩,.inr ⟨_,trivial,hJx3⟩⟩
  ·obtain rfl:k=3:=by omega
   clear hY
   gi_wp2
   go_end0
   exact ⟨⟨_,rfl⟩,.inl ⟨_,rfl,hJs⟩⟩
theorem AP (F:Fence) (n:Nat) (hf:F.fn 114) (hro:F.round=none) (t:aW) (w:World) :
  CallsIn F n Tryz.prog 114 #[t.v] w fun e w'=>e= .returned (.func (.func 165) #[] #[.pointer (some ⟨w.heap.size,0,none⟩)])∧w'=w.alloc (.cells t.cells 38):=by
 obtain ⟨⟨a,b⟩,⟨c,d⟩,⟨e,f⟩⟩:=t
 simp only [aW.v,aW.cells]
 refine callsIn_of_wp Tryz.func114 rfl hf ?_ hro
 simp only [Tryz.ntmps114,List.size_toArray,List.length_cons,List.length_nil,Nat.reduceAdd,Nat.reduceSub,Array.replicate_succ,Array.replicate_zero,List.push_toArray,List.append_toArray,List.nil_append,List.cons_append]
 gi_wp2
 go_ret
 exact ⟨rfl,rfl⟩
theorem uS (F:Fence) (n:Nat) (hf:F.fn 165) (hro:F.round=none) (hn:1≤n) (Bs n₀:Nat) (t:aW) (w:World) (hn₀:n₀≤w.heap.size) (hx:au w Bs t.cells 38) :
  SeqStopsK F n Tryz.prog 165 #[.pointer (some ⟨Bs,0,none⟩)] (enc t) (Below n₀) (fun ys=>ys=upto 3 (Nat.le_refl _)) (fun _=>True) 3 w:=fun l J Jx W hW hJ _ hY hJ0=>by
 obtain ⟨⟨a,b⟩,⟨c,d⟩,⟨e,f⟩⟩:=t
 exact Ig F n hf hro hn l Bs n₀ a b c d e f J Jx _ hJ hY W (Nat.le_trans hn₀ hW.size) (fun o=>(hx.later hW).cell o) hJ0
attribute [local go_sem] Oper.semAt_some
theorem dB {W W':World} (h:Below W.heap.size W W'):KeepsOthers W W' :=
 ⟨h.size,fun k o hk _=>(h.block k (Array.getElem?_eq_some_iff.1 hk).1).trans hk⟩
theorem dL {W W':World} {row:Option Nat} {b:Nat} {cs:Array Value} {T:TypeId} (h:au W b cs T) (hg:W.grownBy W' row) (hr:∀ r,row=some r→∃ o:Obj,W.heap[r]? =some o∧o.isCells=false):au W' b cs T:=by
 unfold au at *
 rw [hg.block b (Array.getElem?_eq_some_iff.1 h).1 ?_]
 ·exact h
 ·intro e
  obtain ⟨o,ho,hc⟩:=hr b e.symm
  rw [h] at ho
  cases ho
  cases hc
def jC (t:aW):Int:=if dK t.list=0 then (if t.list.all (fun f=>decide (0≤(fG f).1)) then 0 else 2) else 20
theorem aW.C8 {w:World} {b:Nat} {t:aW} {T:TypeId} (h:au w b t.cells T):jL w T (.slice (some ⟨b,0,none⟩) 3 3) t.list:=by
 refine ⟨some ⟨b,0,none⟩,3,rfl,Nat.le_refl _,by omega,(fun h=>by cases h),fun ad h'=>?_⟩
 cases h'
 refine ⟨rfl,t.cells,h,fun i hi=>?_⟩
 have:i<3:=hi
 have hc:i=0∨i=1∨i=2:=by omega
 rcases hc with rfl|rfl|rfl<;>exact ⟨rfl,rfl⟩
theorem gW (t:aW) (w:World):Calls Tryz.prog 51 #[t.v] w fun e w'=>e= .returned (.int .i64 (jC t))∧Below w.heap.size w w':=by
 have zF:Hid (∀ W b,au W b t.cells 38→Calls Tryz.prog 113 #[.slice (some ⟨b,0,none⟩) 3 3] W (fun e w'=>e= .returned (.int .i64 (dK t.list))∧Below W.heap.size W w')):=zh fun W b h=>F4 (.slice (some ⟨b,0,none⟩) 3 3) t.list 38 W (aW.C8 h)
 have HNU:Hid (∀ w,CallsIn Fence.wide 2 Tryz.prog 114 #[t.v] w fun e w'=>e= .returned (.func (.func 165) #[] #[.pointer (some ⟨w.heap.size,0,none⟩)])∧w'=w.alloc (.cells t.cells 38)):=zh (AP Fence.wide 2 trivial rfl t)
 have D8:Hid (∀ x:Fin 3,∀ w,Calls Tryz.prog 83 #[(t.get x.1).v] w (fun e w'=>e= .returned (dG.pair (fG (t.get x.1)))∧Below w.heap.size w w')):=zh fun x=>dG.jW _
 unfold jC
 generalize Pp:dK t.list=ck at *
 have hck:ck=0∨ck=20:=by rw [← Pp];unfold dK;split<;>simp
 obtain ⟨z,Ez⟩:∃ y:Int,Hid ((if t.list.all (fun f=>decide (0≤(fG f).1)) then 0 else 2)=y):=⟨_,zh rfl⟩
 rw [Ez.out]
 refine (callsIn_wide (n:=3)).1 ?_
 refine callsIn_of_wp_marks Tryz.func51 rfl trivial ?_ rfl
 simp only [Tryz.ntmps51,List.size_toArray,List.length_cons,List.length_nil,Nat.reduceAdd,Nat.reduceSub,Array.replicate_succ,Array.replicate_zero,List.push_toArray,List.append_toArray,List.nil_append,List.cons_append]
 obtain ⟨⟨a,b⟩,⟨c,d⟩,⟨e,f⟩⟩:=t
 simp only [aW.v,aW.cells] at *
 obtain ⟨wa,Qp⟩:∃ y:World,Hid ((w.alloc (.cells #[.string a,.string b,.string c,.string d,.string e,.string f] 38)).alloc (.cells #[.int .i64 0] 45)=y):=⟨_,zh rfl⟩
 have hba:au wa w.heap.size #[.string a,.string b,.string c,.string d,.string e,.string f] 38:=by rw [← Qp.out];exact aJ
 have hbr:au wa (w.heap.size+1) #[.int .i64 0] 45:=by rw [← Qp.out];exact aJ
 have hB1:Below w.heap.size w wa:=by rw [← Qp.out];exact aA
 have HBA:=zh hba
 have HBR:=zh hbr
 have HB1:=zh hB1
 clear hba hbr hB1
 rcases hck with rfl|rfl
 ·rw [if_pos rfl]
  clear Pp
  gi_wp2_with (refine ⟨trivial,?_⟩;gi_at_call 113;rw [Qp.out];refine (callsIn_wide.2 (zF.out _ _ HBA.out)).mono ?_;rintro e w1 ⟨rfl,hc1⟩;have hb0:=HBA.out.later hc1;have c0:=hb0.cell;have hb1:=HBR.out.later hc1;have c1:=hb1.cell;have f1:=hb1.free)
  gi_wp2_with (refine ⟨trivial,?_⟩;gi_at_call 114;refine (HNU.out _).mono ?_;rintro e w' ⟨rfl,rfl⟩)
  have hB2:Below w.heap.size w w1:=HB1.out.trans (hc1.mono HB1.out.size)
  obtain ⟨w2,Qe⟩:∃ y:World,Hid (w1.alloc (.cells #[.string a,.string b,.string c,.string d,.string e,.string f] 38)=y):=⟨_,zh rfl⟩
  rw [Qe.out]
  have hbx:au w2 w1.heap.size #[.string a,.string b,.string c,.string d,.string e,.string f] 38:=by rw [← Qe.out];exact aJ
  have hb1':au w2 (w.heap.size+1) #[.int .i64 0] 45:=by rw [← Qe.out];exact aJ
  have hB0:Below w.heap.size w w2:=by rw [← Qe.out];exact hB2.alloc hB2.size _
  refine wpIn_rangeFunc_ownH (α:=Fin 3) rfl zo (gf:=165) (lb:=#[.pointer (some ⟨w1.heap.size,0,none⟩)]) rfl trivial (enters_of Tryz.func165 zk rfl)
   (uS Fence.wide 2 trivial rfl zo w1.heap.size w.heap.size ⟨⟨a,b⟩,⟨c,d⟩,⟨e,f⟩⟩ w2 hB0.size hbx) belowK_t (belowK_b hB0.size) (Below.refl _ _) (fun _=>rfl)
   (fun pre W=>(Hid (∀ x∈pre,decide (0≤(fG (aW.get ⟨⟨a,b⟩,⟨c,d⟩,⟨e,f⟩⟩ x.1)).1)=true)∧au W (w.heap.size+1) #[.int .i64 0] 45)∧Below w.heap.size w W)
   (fun c' pre W=>(c'= .ret∧Hid (∃ x:Fin 3,decide (0≤(fG (aW.get ⟨⟨a,b⟩,⟨c,d⟩,⟨e,f⟩⟩ x.1)).1)=false)∧au W (w.heap.size+1) #[.int .i64 2] 45)∧Below w.heap.size w W)
   (OwnFrom.and (Own.from (fun s A B row hs hg hr=>⟨hs.1,dL hs.2 hg hr⟩) _) (ownFrom_below (Nat.le_refl _) hB0.size))
   (fun c=>OwnFrom.and (Own.from (fun s A B row hs hg hr=>⟨hs.1,hs.2.1,dL hs.2.2 hg hr⟩) _) (ownFrom_below (Nat.le_refl _) hB0.size))
   ⟨⟨zh zi,hb1'⟩,hB0⟩ (fun x a' W=>∃ u15 u16 B,a'={ tmps:=#[Value.agg #[Value.string a,Value.string b,Value.string c,Value.string d,Value.string e,Value.string f],
        Value.pointer (some { block:=w.heap.size,off:=0 }),
        Value.pointer (some { block:=w.heap.size+1,off:=0 }),Value.int IntKind.i64 0,undef,.pointer (some ⟨B,0,none⟩),
        undef,undef,Value.slice (some { block:=w.heap.size,off:=0 }) 3 3,Value.int IntKind.i64 0,
        Value.int IntKind.i64 0,Value.bool false,undef,
        Value.agg
         #[Value.string a,Value.string b,Value.string c,Value.string d,Value.string e,Value.string f],
        .func (.func 165) #[] #[.pointer (some ⟨w1.heap.size,0,none⟩)],u15,u16,undef,undef,undef,undef,undef,undef,undef],defers:=[] }∧au W B #[.string (aW.get ⟨⟨a,b⟩,⟨c,d⟩,⟨e,f⟩⟩ x.1).n,.string (aW.get ⟨⟨a,b⟩,⟨c,d⟩,⟨e,f⟩⟩ x.1).d] 36) ?hAx ?assign ?body ?done ?stop
  case hAx =>
   intro x a'
   exact Own.from (fun s A B row hs hg hr=>by
    obtain ⟨u1,u2,B',h1,h2⟩:=hs
    exact ⟨u1,u2,B',h1,dL h2 hg hr⟩) _
  case assign =>
   intro l pre x W K hI hK
   unfold enc Fr.v
   gi_wp2
   exact hK _ _ ((dB aA).from _) ((Below.refl _ W).alloc hI.2.size _) ⟨⟨hI.1.1,hI.1.2.later aA⟩,hI.2.alloc hI.2.size _⟩ ⟨_,_,_,rfl,aJ⟩
  case body =>
   rintro l pre x a' W hl hr ⟨⟨hp,hb2⟩,hB⟩ ⟨u1,u2,B',rfl,hbB⟩ _
   have hsx:=D8.out x
   obtain ⟨y,Ey⟩:∃ y:Fr,Hid (aW.get ⟨⟨a,b⟩,⟨c,d⟩,⟨e,f⟩⟩ x.1=y):=⟨_,zh rfl⟩
   rw [Ey.out] at hbB hsx
   obtain ⟨s,t⟩:=y
   obtain ⟨q,Eq⟩:∃ q:Int × Int,Hid (fG ⟨s,t⟩=q):=⟨_,zh rfl⟩
   rw [Eq.out] at hsx
   obtain ⟨q1,q2⟩:=q
   unfold dG.pair Fr.v at hsx
   dsimp only at hsx hbB
   have HSX:=zh hsx
   clear hsx
   have c3:=hbB.cell
   by_cases hq:q1<0
   ·have HQ:=zh hq
    have b1:decide (q1<0)=true:=decide_eq_true hq
    clear hq
    gi_wp2_with (refine ⟨trivial,?_⟩;gi_at_call 83;refine (CallsIn.inRound l (callsIn_wide.2 (HSX.out _))).mono ?_;rintro e w1 ⟨rfl,hc1⟩;have hb3:=hb2.later hc1;have c2:=hb3.cell;have f2:=hb3.free)
    refine ⟨(((dB hc1).trans (KeepsOthers.setCell _ _ _)).from _),⟨⟨rfl,zh ⟨x,?_⟩,hb3.set 0 _⟩,(hB.trans (hc1.mono hB.size)).setCell zi _⟩⟩
    rw [Ey.out,Eq.out]
    simpa using HQ.out
   ·have HQ:=zh hq
    have b1:decide (q1<0)=false:=decide_eq_false hq
    clear hq
    gi_wp2_with (refine ⟨trivial,?_⟩;gi_at_call 83;refine (CallsIn.inRound l (callsIn_wide.2 (HSX.out _))).mono ?_;rintro e w1 ⟨rfl,hc1⟩;have hb3:=hb2.later hc1)
    refine ⟨(dB hc1).from _,hc1.mono hB.size,⟨⟨zh fun y hy=>?_,hb3⟩,hB.trans (hc1.mono hB.size)⟩⟩
    rcases List.mem_append.1 hy with h|h
    ·exact hp.out y h
    ·rw [List.mem_singleton] at h
     subst h
     rw [Ey.out,Eq.out]
     have:=HQ.out
     simp
     omega
  case done =>
   rintro D ys W hD rfl ⟨⟨hp,hb1⟩,hB⟩ hK
   have c1:=hb1.cell
   have f1:=hb1.free
   have hz:z=0:=by
    rw [← Ez.out,if_pos]
    rw [List.all_eq_true]
    intro r hr
    have h0:=hp.out ⟨0,by omega⟩ (by unfold upto;rw [List.mem_ofFn];exact ⟨⟨0,by omega⟩,rfl⟩)
    have h1:=hp.out ⟨1,by omega⟩ (by unfold upto;rw [List.mem_ofFn];exact ⟨⟨1,by omega⟩,rfl⟩)
    have h2:=hp.out ⟨2,by omega⟩ (by unfold upto;rw [List.mem_ofFn];exact ⟨⟨2,by omega⟩,rfl⟩)
    simp only [aW.list,List.mem_cons,List.not_mem_nil,or_false] at hr
    rcases hr with rfl|rfl|rfl
    ·exact h0
    ·exact h1
    ·exact h2
   have HZ:=zh hz
   clear hz
   gi_wp2
   have hb2:=hb1.set 0 (.int .i64 0)
   have hK':=(KeepsOthers.setCell W ⟨w.heap.size+1,0,none⟩ (.int .i64 0)).same D _ hK rfl
   refine ⟨by simp,.inl ⟨_,_,rfl,run_takeDeferred hK',?_⟩⟩
   have hb3:=dL hb2 (grownBy_putObj' _ D (.deferred none)) (fun r e=>by cases e;exact ⟨_,hK',rfl⟩)
   have kP:=hb3.cell 0
   refine ⟨.int .i64 0,?_,by rw [HZ.out],(hB.setCell (p:=⟨w.heap.size+1,0,none⟩) zi _).trans (belowK_b (w:=w) (Nat.le_refl _) _ D _ _ (by have:=hB0.size;omega) hK' rfl rfl)⟩
   simp [results,Tryz.f51,go_sem,kP]
  case stop =>
   rintro D c' pre W hD hpre ⟨⟨rfl,hin,hb1⟩,hB⟩ hK
   have hz:z=2:=by
    rw [← Ez.out,if_neg]
    intro h
    obtain ⟨x,hx⟩:=hin.out
    rw [List.all_eq_true] at h
    have hx3:x.1=0∨x.1=1∨x.1=2:=by omega
    have:=h (aW.get ⟨⟨a,b⟩,⟨c,d⟩,⟨e,f⟩⟩ x.1) (by rcases hx3 with e|e|e<;>rw [e]<;>simp [aW.list,aW.get])
    rw [this] at hx
    cases hx
   have HZ:=zh hz
   clear hz
   gi_wp2
   refine ⟨by simp,.inl ⟨_,_,rfl,run_takeDeferred hK,?_⟩⟩
   have hb3:=dL hb1 (grownBy_putObj' _ D (.deferred none)) (fun r e=>by cases e;exact ⟨_,hK,rfl⟩)
   have kP:=hb3.cell 0
   refine ⟨.int .i64 2,?_,by rw [HZ.out],hB.trans (belowK_b (w:=w) (Nat.le_refl _) W D _ _ (by have:=hB0.size;omega) hK rfl rfl)⟩
   simp [results,Tryz.f51,go_sem,kP]
 ·rw [if_neg zd]
  clear Pp
  gi_wp2_with (refine ⟨trivial,?_⟩;gi_at_call 113;rw [Qp.out];refine (callsIn_wide.2 (zF.out _ _ HBA.out)).mono ?_;rintro e w1 ⟨rfl,hc1⟩;have hb0:=HBA.out.later hc1;have c0:=hb0.cell;have hb1:=HBR.out.later hc1;have c1:=hb1.cell;have f1:=hb1.free)
  have c5:=(hb1.set 0 (.int .i64 20)).cell 0
  refine ⟨.int .i64 20,?_,rfl,(HB1.out.trans (hc1.mono HB1.out.size)).setCell zi _⟩
  simp [results,Tryz.f51,go_sem,c5]
attribute [local go_sem] Oper.semAt_some
def gF (t:aW):Int:=if jC t=0 then (if t.list.all (fun f=>decide ((fG f).1≠0)) then 0 else 2) else jC t
theorem kS (t:aW) (w:World):Calls Tryz.prog 80 #[t.v] w fun e w'=>e= .returned (.int .i64 (gF t))∧Below w.heap.size w w':=by
 have zF:Hid (∀ W,Calls Tryz.prog 51 #[t.v] W (fun e w'=>e= .returned (.int .i64 (jC t))∧Below W.heap.size W w')):=zh fun W=>gW t W
 have HNU:Hid (∀ w,CallsIn Fence.wide 2 Tryz.prog 114 #[t.v] w fun e w'=>e= .returned (.func (.func 165) #[] #[.pointer (some ⟨w.heap.size,0,none⟩)])∧w'=w.alloc (.cells t.cells 38)):=zh (AP Fence.wide 2 trivial rfl t)
 have D8:Hid (∀ x:Fin 3,∀ w,Calls Tryz.prog 83 #[(t.get x.1).v] w (fun e w'=>e= .returned (dG.pair (fG (t.get x.1)))∧Below w.heap.size w w')):=zh fun x=>dG.jW _
 unfold gF
 generalize Pp:jC t=ck at *
 have hck:ck=0∨ck≠0:=by omega
 obtain ⟨z,Ez⟩:∃ y:Int,Hid ((if t.list.all (fun f=>decide ((fG f).1≠0)) then 0 else 2)=y):=⟨_,zh rfl⟩
 rw [Ez.out]
 refine (callsIn_wide (n:=3)).1 ?_
 refine callsIn_of_wp_marks Tryz.func80 rfl trivial ?_ rfl
 simp only [Tryz.ntmps80,List.size_toArray,List.length_cons,List.length_nil,Nat.reduceAdd,Nat.reduceSub,Array.replicate_succ,Array.replicate_zero,List.push_toArray,List.append_toArray,List.nil_append,List.cons_append]
 obtain ⟨⟨a,b⟩,⟨c,d⟩,⟨e,f⟩⟩:=t
 simp only [aW.v,aW.cells] at *
 obtain ⟨wa,Qp⟩:∃ y:World,Hid ((w.alloc (.cells #[.string a,.string b,.string c,.string d,.string e,.string f] 38)).alloc (.cells #[.int .i64 0] 45)=y):=⟨_,zh rfl⟩
 have hba:au wa w.heap.size #[.string a,.string b,.string c,.string d,.string e,.string f] 38:=by rw [← Qp.out];exact aJ
 have hbr:au wa (w.heap.size+1) #[.int .i64 0] 45:=by rw [← Qp.out];exact aJ
 have hB1:Below w.heap.size w wa:=by rw [← Qp.out];exact aA
 have HBA:=zh hba
 have c00:=hba.cell
 rw [← Qp.out] at c00
 have HBR:=zh hbr
 have HB1:=zh hB1
 clear hba hbr hB1
 rcases hck with rfl|hck
 ·rw [if_pos rfl]
  clear Pp
  gi_wp2_with (refine ⟨trivial,?_⟩;gi_at_call 51;rw [Qp.out];refine (callsIn_wide.2 (zF.out _)).mono ?_;rintro e w1 ⟨rfl,hc1⟩;have hb0:=HBA.out.later hc1;have c0:=hb0.cell;have hb1:=HBR.out.later hc1;have c1:=hb1.cell;have f1:=hb1.free)
  gi_wp2_with (refine ⟨trivial,?_⟩;gi_at_call 114;refine (HNU.out _).mono ?_;rintro e w' ⟨rfl,rfl⟩)
  have hB2:Below w.heap.size w w1:=HB1.out.trans (hc1.mono HB1.out.size)
  obtain ⟨w2,Qe⟩:∃ y:World,Hid (w1.alloc (.cells #[.string a,.string b,.string c,.string d,.string e,.string f] 38)=y):=⟨_,zh rfl⟩
  rw [Qe.out]
  have hbx:au w2 w1.heap.size #[.string a,.string b,.string c,.string d,.string e,.string f] 38:=by rw [← Qe.out];exact aJ
  have hb1':au w2 (w.heap.size+1) #[.int .i64 0] 45:=by rw [← Qe.out];exact aJ
  have hB0:Below w.heap.size w w2:=by rw [← Qe.out];exact hB2.alloc hB2.size _
  refine wpIn_rangeFunc_ownH (α:=Fin 3) rfl zo (gf:=165) (lb:=#[.pointer (some ⟨w1.heap.size,0,none⟩)]) rfl trivial (enters_of Tryz.func165 zk rfl)
   (uS Fence.wide 2 trivial rfl zo w1.heap.size w.heap.size ⟨⟨a,b⟩,⟨c,d⟩,⟨e,f⟩⟩ w2 hB0.size hbx) belowK_t (belowK_b hB0.size) (Below.refl _ _) (fun _=>rfl)
   (fun pre W=>(Hid (∀ x∈pre,decide ((fG (aW.get ⟨⟨a,b⟩,⟨c,d⟩,⟨e,f⟩⟩ x.1)).1≠0)=true)∧au W (w.heap.size+1) #[.int .i64 0] 45)∧Below w.heap.size w W)
   (fun c' pre W=>(c'= .ret∧Hid (∃ x:Fin 3,decide ((fG (aW.get ⟨⟨a,b⟩,⟨c,d⟩,⟨e,f⟩⟩ x.1)).1≠0)=false)∧au W (w.heap.size+1) #[.int .i64 2] 45)∧Below w.heap.size w W)
   (OwnFrom.and (Own.from (fun s A B row hs hg hr=>⟨hs.1,dL hs.2 hg hr⟩) _) (ownFrom_below (Nat.le_refl _) hB0.size))
   (fun c=>OwnFrom.and (Own.from (fun s A B row hs hg hr=>⟨hs.1,hs.2.1,dL hs.2.2 hg hr⟩) _) (ownFrom_below (Nat.le_refl _) hB0.size))
   ⟨⟨zh zi,hb1'⟩,hB0⟩ (fun x a' W=>∃ u15 u16 B,a'={ tmps:=#[Value.agg #[Value.string a,Value.string b,Value.string c,Value.string d,Value.string e,Value.string f],
        Value.pointer (some { block:=w.heap.size,off:=0 }),
        Value.pointer (some { block:=w.heap.size+1,off:=0 }),Value.int IntKind.i64 0,undef,.pointer (some ⟨B,0,none⟩),
        undef,undef,Value.agg #[Value.string a,Value.string b,Value.string c,Value.string d,Value.string e,Value.string f],Value.int IntKind.i64 0,
        Value.int IntKind.i64 0,Value.bool false,undef,
        Value.agg
         #[Value.string a,Value.string b,Value.string c,Value.string d,Value.string e,Value.string f],
        .func (.func 165) #[] #[.pointer (some ⟨w1.heap.size,0,none⟩)],u15,u16,undef,undef,undef,undef,undef,undef,undef],defers:=[] }∧au W B #[.string (aW.get ⟨⟨a,b⟩,⟨c,d⟩,⟨e,f⟩⟩ x.1).n,.string (aW.get ⟨⟨a,b⟩,⟨c,d⟩,⟨e,f⟩⟩ x.1).d] 36) ?hAx ?assign ?body ?done ?stop
  case hAx =>
   intro x a'
   exact Own.from (fun s A B row hs hg hr=>by
    obtain ⟨u1,u2,B',h1,h2⟩:=hs
    exact ⟨u1,u2,B',h1,dL h2 hg hr⟩) _
  case assign =>
   intro l pre x W K hI hK
   unfold enc Fr.v
   gi_wp2
   exact hK _ _ ((dB aA).from _) ((Below.refl _ W).alloc hI.2.size _) ⟨⟨hI.1.1,hI.1.2.later aA⟩,hI.2.alloc hI.2.size _⟩ ⟨_,_,_,rfl,aJ⟩
  case body =>
   rintro l pre x a' W hl hr ⟨⟨hp,hb2⟩,hB⟩ ⟨u1,u2,B',rfl,hbB⟩ _
   have hsx:=D8.out x
   obtain ⟨y,Ey⟩:∃ y:Fr,Hid (aW.get ⟨⟨a,b⟩,⟨c,d⟩,⟨e,f⟩⟩ x.1=y):=⟨_,zh rfl⟩
   rw [Ey.out] at hbB hsx
   obtain ⟨s,t⟩:=y
   obtain ⟨q,Eq⟩:∃ q:Int × Int,Hid (fG ⟨s,t⟩=q):=⟨_,zh rfl⟩
   rw [Eq.out] at hsx
   obtain ⟨q1,q2⟩:=q
   unfold dG.pair Fr.v at hsx
   dsimp only at hsx hbB
   have HSX:=zh hsx
   clear hsx
   have c3:=hbB.cell
   by_cases hq:q1=0
   ·have HQ:=zh hq
    have b1:(q1 == 0)=true:=by simpa using hq
    clear hq
    gi_wp2_with (refine ⟨trivial,?_⟩;gi_at_call 83;refine (CallsIn.inRound l (callsIn_wide.2 (HSX.out _))).mono ?_;rintro e w1 ⟨rfl,hc1⟩;have hb3:=hb2.later hc1;have c2:=hb3.cell;have f2:=hb3.free)
    refine ⟨(((dB hc1).trans (KeepsOthers.setCell _ _ _)).from _),⟨⟨rfl,zh ⟨x,?_⟩,hb3.set 0 _⟩,(hB.trans (hc1.mono hB.size)).setCell zi _⟩⟩
    rw [Ey.out,Eq.out]
    simpa using HQ.out
   ·have HQ:=zh hq
    have b1:(q1 == 0)=false:=by simpa using hq
    clear hq
    gi_wp2_with (refine ⟨trivial,?_⟩;gi_at_call 83;refine (CallsIn.inRound l (callsIn_wide.2 (HSX.out _))).mono ?_;rintro e w1 ⟨rfl,hc1⟩;have hb3:=hb2.later hc1)
    refine ⟨(dB hc1).from _,hc1.mono hB.size,⟨⟨zh fun y hy=>?_,hb3⟩,hB.trans (hc1.mono hB.size)⟩⟩
    rcases List.mem_append.1 hy with h|h
    ·exact hp.out y h
    ·rw [List.mem_singleton] at h
     subst h
     rw [Ey.out,Eq.out]
     simpa using HQ.out
  case done =>
   rintro D ys W hD rfl ⟨⟨hp,hb1⟩,hB⟩ hK
   have c1:=hb1.cell
   have f1:=hb1.free
   have hz:z=0:=by
    rw [← Ez.out,if_pos]
    rw [List.all_eq_true]
    intro r hr
    have h0:=hp.out ⟨0,by omega⟩ (by unfold upto;rw [List.mem_ofFn];exact ⟨⟨0,by omega⟩,rfl⟩)
    have h1:=hp.out ⟨1,by omega⟩ (by unfold upto;rw [List.mem_ofFn];exact ⟨⟨1,by omega⟩,rfl⟩)
    have h2:=hp.out ⟨2,by omega⟩ (by unfold upto;rw [List.mem_ofFn];exact ⟨⟨2,by omega⟩,rfl⟩)
    simp only [aW.list,List.mem_cons,List.not_mem_nil,or_false] at hr
    rcases hr with rfl|rfl|rfl
    ·exact h0
    ·exact h1
    ·exact h2
   have HZ:=zh hz
   clear hz
   gi_wp2
   have hb2:=hb1.set 0 (.int .i64 0)
   have hK':=(KeepsOthers.setCell W ⟨w.heap.size+1,0,none⟩ (.int .i64 0)).same D _ hK rfl
   refine ⟨by simp,.inl ⟨_,_,rfl,run_takeDeferred hK',?_⟩⟩
   have hb3:=dL hb2 (grownBy_putObj' _ D (.deferred none)) (fun r e=>by cases e;exact ⟨_,hK',rfl⟩)
   have kP:=hb3.cell 0
   refine ⟨.int .i64 0,?_,by rw [HZ.out],(hB.setCell (p:=⟨w.heap.size+1,0,none⟩) zi _).trans (belowK_b (w:=w) (Nat.le_refl _) _ D _ _ (by have:=hB0.size;omega) hK' rfl rfl)⟩
   simp [results,Tryz.f80,go_sem,kP]
  case stop =>
   rintro D c' pre W hD hpre ⟨⟨rfl,hin,hb1⟩,hB⟩ hK
   have hz:z=2:=by
    rw [← Ez.out,if_neg]
    intro h
    obtain ⟨x,hx⟩:=hin.out
    rw [List.all_eq_true] at h
    have hx3:x.1=0∨x.1=1∨x.1=2:=by omega
    have:=h (aW.get ⟨⟨a,b⟩,⟨c,d⟩,⟨e,f⟩⟩ x.1) (by rcases hx3 with e|e|e<;>rw [e]<;>simp [aW.list,aW.get])
    rw [this] at hx
    cases hx
   have HZ:=zh hz
   clear hz
   gi_wp2
   refine ⟨by simp,.inl ⟨_,_,rfl,run_takeDeferred hK,?_⟩⟩
   have hb3:=dL hb1 (grownBy_putObj' _ D (.deferred none)) (fun r e=>by cases e;exact ⟨_,hK,rfl⟩)
   have kP:=hb3.cell 0
   refine ⟨.int .i64 2,?_,by rw [HZ.out],hB.trans (belowK_b (w:=w) (Nat.le_refl _) W D _ _ (by have:=hB0.size;omega) hK rfl rfl)⟩
   simp [results,Tryz.f80,go_sem,kP]
 ·rw [if_neg hck]
  have b5:(ck != 0)=true:=by simpa using hck
  clear Pp
  gi_wp2_with (refine ⟨trivial,?_⟩;gi_at_call 51;rw [Qp.out];refine (callsIn_wide.2 (zF.out _)).mono ?_;rintro e w1 ⟨rfl,hc1⟩;have hb0:=HBA.out.later hc1;have c0:=hb0.cell;have hb1:=HBR.out.later hc1;have c1:=hb1.cell;have f1:=hb1.free)
  have c5:=(hb1.set 0 (.int .i64 ck)).cell 0
  refine ⟨.int .i64 ck,?_,rfl,(HB1.out.trans (hc1.mono HB1.out.size)).setCell zi _⟩
  simp [results,Tryz.f80,go_sem,c5]
end Go.Proofs.light
namespace Go.Proofs.adapt
open Go Go.RowKit Go.SW Go.Num Go.Mem Go.Proofs Go.Dec Go.dx
def thrown (er:Int):Ending:=.panicked [{ v:=.iface 130 (.agg #[.int .i64 er]),recovered:=false }]
theorem nE (w:World):Calls Tryz.prog 49 #[.int .i64 0] w (fun e w'=>e= .returned (.tuple #[])∧w'=w):=by
 go_enter Tryz.func49,Tryz.ntmps49
 go_wp2_with fail
 first|go_end0|refine bodyPost_ret (results_none rfl _ _ _) rfl ?_
 exact ⟨rfl,rfl⟩
theorem iI (er:Int) (h:er≠0) (w:World):Calls Tryz.prog 49 #[.int .i64 er] w (fun e w'=>e=thrown er∧w'=w):=by
 have b1:(er != 0)=true:=by simp [h]
 clear h
 go_enter Tryz.func49,Tryz.ntmps49
 go_wp2_with fail
 exact ⟨rfl,rfl,rfl⟩
def aU (w:World) (er:Int) (Rv:Value→World→Prop) (e:Ending) (w':World):Prop :=
 Below w.heap.size w w'∧((er=0∧∃ v,e= .returned v∧Rv v w')∨(er≠0∧e=thrown er))
theorem aU.no {w w':World} {er:Int} {Rv:Value→World→Prop} (hb:Below w.heap.size w w') (h:er≠0):aU w er Rv (thrown er) w':=⟨hb,.inr ⟨h,rfl⟩⟩
theorem aU.yes {w w':World} {Rv:Value→World→Prop} {v:Value} (hb:Below w.heap.size w w') (h:Rv v w'):aU w 0 Rv (.returned v) w':=⟨hb,.inl ⟨rfl,_,rfl,h⟩⟩
theorem qo (a:Fr) (w:World):Calls Tryz.prog 74 #[a.v,.int .i64 0] w (fun e w'=>e= .returned a.v∧Below w.heap.size w w'):=by
 obtain ⟨s,t⟩:=a
 unfold Fr.v
 go_enter Tryz.func74,Tryz.ntmps74
 go_wp2_with fail
 refine (nE _).mono ?_
 rintro e w1 ⟨rfl,rfl⟩
 go_wp2_with fail
 refine bO rfl rfl aJ Tryz.underlying36 rfl zk ?_
 exact ⟨rfl,aA⟩
theorem uq (a:Fr) (er:Int) (h:er≠0) (w:World):Calls Tryz.prog 74 #[a.v,.int .i64 er] w (fun e w'=>e=thrown er∧Below w.heap.size w w'):=by
 obtain ⟨s,t⟩:=a
 unfold Fr.v
 have H:=zh h
 clear h
 go_enter Tryz.func74,Tryz.ntmps74
 go_wp2_with fail
 refine (iI er H.out _).mono ?_
 rintro e w1 ⟨rfl,rfl⟩
 exact ⟨rfl,rfl,aA⟩
theorem qm (a:Option Addr) (n c:Nat) (w:World):Calls Tryz.prog 37 #[.slice a n c,.int .i64 0] w (fun e w'=>e= .returned (.slice a n c)∧w'=w):=by
 go_enter Tryz.func37,Tryz.ntmps37
 go_wp2_with fail
 refine (nE _).mono ?_
 rintro e w1 ⟨rfl,rfl⟩
 go_wp2_with fail
 go_ret
 exact ⟨rfl,rfl⟩
theorem xZ (a:Option Addr) (n c:Nat) (er:Int) (h:er≠0) (w:World):Calls Tryz.prog 37 #[.slice a n c,.int .i64 er] w (fun e w'=>e=thrown er∧w'=w):=by
 have H:=zh h
 clear h
 go_enter Tryz.func37,Tryz.ntmps37
 go_wp2_with fail
 refine (iI er H.out _).mono ?_
 rintro e w1 ⟨rfl,rfl⟩
 exact ⟨rfl,rfl,rfl⟩
theorem mE (z:Int) (w:World):Calls Tryz.prog 82 #[.int .i64 z,.int .i64 0] w (fun e w'=>e= .returned (.int .i64 z)∧w'=w):=by
 go_enter Tryz.func82,Tryz.ntmps82
 go_wp2_with fail
 refine (nE _).mono ?_
 rintro e w1 ⟨rfl,rfl⟩
 go_wp2_with fail
 go_ret
 exact ⟨rfl,rfl⟩
theorem Ih (a:Option Addr) (n c:Nat) (w:World):Calls Tryz.prog 52 #[.slice a n c,.int .i64 0] w (fun e w'=>e= .returned (.slice a n c)∧w'=w):=by
 go_enter Tryz.func52,Tryz.ntmps52
 go_wp2_with fail
 refine (nE _).mono ?_
 rintro e w1 ⟨rfl,rfl⟩
 go_wp2_with fail
 go_ret
 exact ⟨rfl,rfl⟩
theorem Du (a:Option Addr) (n c:Nat) (er:Int) (h:er≠0) (w:World):Calls Tryz.prog 52 #[.slice a n c,.int .i64 er] w (fun e w'=>e=thrown er∧w'=w):=by
 have H:=zh h
 clear h
 go_enter Tryz.func52,Tryz.ntmps52
 go_wp2_with fail
 refine (iI er H.out _).mono ?_
 rintro e w1 ⟨rfl,rfl⟩
 exact ⟨rfl,rfl,rfl⟩
theorem yE (er:Int) (w:World):(Instr.typeAssert (.iface 130 (.agg #[.int .i64 er])) 20 130 true).run Tryz.prog w= .ok (.tuple #[.agg #[.int .i64 er],.bool true]) w:=by kernel_rfl
theorem qB {w:World} {b:Nat} {cs cs':Array Value} {T:TypeId} (h:au w b cs T) (e:cs=cs'):au w b cs' T:=e ▸ h
def caught (er:Int) (rec:Bool):FrameMode:=.panicking [{ v:=.iface 130 (.agg #[.int .i64 er]),recovered:=rec }]
theorem Jh (p q:Addr) (w:World) :
  CallsD Tryz.prog 79 #[.pointer (some p),.pointer (some q)] .returning w fun e u' w'=>e= .returned (.tuple #[])∧u'= .returning∧w'=w:=by
 refine callsD_of_wpS Tryz.func79 rfl fun c₀ cs hu=>?_
 simp only [Tryz.ntmps79,List.size_toArray,List.length_cons,List.length_nil,Nat.reduceAdd,Nat.reduceSub,Array.replicate_succ,Array.replicate_zero,List.push_toArray,List.append_toArray,List.nil_append,List.cons_append]
 refine wpS_seq (wpS_region ?_)
 generalize hQ:Exit.thenS _ _=Q
 simp [wpOpsS,go_sem,recoverD,hu]
 rw [← hQ]
 clear hQ
 refine wpS_of_wp ?_
 go_wp2_with fail
 cases c₀
 simp_all [bodyPostS,results,Tryz.results79]
theorem ae5 (b c:Nat) (v:Value) (z er:Int) (w:World) (hb:au w b #[v] 44) (hc:au w c #[.int .i64 z] 45) :
  CallsD Tryz.prog 79 #[.pointer (some ⟨b,0,none⟩),.pointer (some ⟨c,0,none⟩)] (caught er false) w fun e u' w' =>
   e= .returned (.tuple #[])∧u'=caught er true∧au w' b #[.slice none 0 0] 44∧au w' c #[.int .i64 er] 45∧∀ w0:World,w0.heap.size≤b→w0.heap.size≤c→Below w0.heap.size w0 w→Below w0.heap.size w0 w':=by
 unfold caught
 refine callsD_of_wpS Tryz.func79 rfl fun c₀ cs hu=>?_
 simp only [Tryz.ntmps79,List.size_toArray,List.length_cons,List.length_nil,Nat.reduceAdd,Nat.reduceSub,Array.replicate_succ,Array.replicate_zero,List.push_toArray,List.append_toArray,List.nil_append,List.cons_append]
 refine wpS_seq (wpS_region ?_)
 generalize hQ:Exit.thenS _ _=Q
 simp [wpOpsS,go_sem,recoverD,hu]
 rw [← hQ]
 clear hQ
 refine wpS_of_wp ?_
 have cb:=hb.cell
 have fb:=hb.free
 have cc:=hc.cell
 have fc:=hc.free
 have lb:=hb.lt
 have lc:=hc.lt
 have hne:b≠c:=hb.ne hc zd
 have hne2:c≠b:=fun e=>hne e.symm
 have hta:=yE er
 obtain ⟨R,HR⟩:∃ R:Ending→FrameMode→World→Prop,Hid (R=fun e u' w'=>e= .returned (.tuple #[])∧u'= .panicking [{ v:=.iface 130 (.agg #[.int .i64 er]),recovered:=true }]∧au w' b #[.slice none 0 0] 44∧au w' c #[.int .i64 er] 45∧∀ w0:World,w0.heap.size≤b→w0.heap.size≤c→Below w0.heap.size w0 w→Below w0.heap.size w0 w'):=⟨_,zh rfl⟩
 rw [← HR.out]
 go_wp2_with fail
 simp only [bodyPostS]
 refine ⟨trivial,_,rfl,_,results_none rfl _ _ _,?_⟩
 rw [HR.out]
 refine ⟨rfl,rfl,?_,?_,fun w0 h1 h2 h3=>?_⟩
 ·apply qB
  ·exact aJ
  ·simp only [List.setIfInBounds_toArray,List.set_cons_zero,List.set_cons_succ]
 ·apply qB
  ·exact aJ
  ·simp only [List.setIfInBounds_toArray,List.set_cons_zero,List.set_cons_succ]
 ·exact aA
theorem Ji (p q:Addr) (w:World) :
  CallsD Tryz.prog 133 #[.pointer (some p),.pointer (some q)] .returning w fun e u' w'=>e= .returned (.tuple #[])∧u'= .returning∧w'=w:=by
 refine callsD_of_wpS Tryz.func133 rfl fun c₀ cs hu=>?_
 simp only [Tryz.ntmps133,List.size_toArray,List.length_cons,List.length_nil,Nat.reduceAdd,Nat.reduceSub,Array.replicate_succ,Array.replicate_zero,List.push_toArray,List.append_toArray,List.nil_append,List.cons_append]
 refine wpS_seq (wpS_region ?_)
 generalize hQ:Exit.thenS _ _=Q
 simp [wpOpsS,go_sem,recoverD,hu]
 rw [← hQ]
 clear hQ
 refine wpS_of_wp ?_
 go_wp2_with fail
 cases c₀
 simp_all [bodyPostS,results,Tryz.results133]
theorem ae6 (b c:Nat) (s1 s2 s3 s4 s5 s6:ByteArray) (z er:Int) (w:World) (hb:au w b #[.string s1,.string s2,.string s3,.string s4,.string s5,.string s6] 37) (hc:au w c #[.int .i64 z] 45) :
  CallsD Tryz.prog 133 #[.pointer (some ⟨b,0,none⟩),.pointer (some ⟨c,0,none⟩)] (caught er false) w fun e u' w' =>
   e= .returned (.tuple #[])∧u'=caught er true∧au w' b #[.string ⟨#[]⟩,.string ⟨#[]⟩,.string ⟨#[]⟩,.string ⟨#[]⟩,.string ⟨#[]⟩,.string ⟨#[]⟩] 37∧au w' c #[.int .i64 er] 45∧∀ w0:World,w0.heap.size≤b→w0.heap.size≤c→Below w0.heap.size w0 w→Below w0.heap.size w0 w':=by
 unfold caught
 refine callsD_of_wpS Tryz.func133 rfl fun c₀ cs hu=>?_
 simp only [Tryz.ntmps133,List.size_toArray,List.length_cons,List.length_nil,Nat.reduceAdd,Nat.reduceSub,Array.replicate_succ,Array.replicate_zero,List.push_toArray,List.append_toArray,List.nil_append,List.cons_append]
 refine wpS_seq (wpS_region ?_)
 generalize hQ:Exit.thenS _ _=Q
 simp [wpOpsS,go_sem,recoverD,hu]
 rw [← hQ]
 clear hQ
 refine wpS_of_wp ?_
 have cb:=hb.cell
 have fb:=hb.free
 have cc:=hc.cell
 have fc:=hc.free
 have lb:=hb.lt
 have lc:=hc.lt
 have hne:b≠c:=hb.ne hc zd
 have hne2:c≠b:=fun e=>hne e.symm
 have hta:=yE er
 obtain ⟨R,HR⟩:∃ R:Ending→FrameMode→World→Prop,Hid (R=fun e u' w'=>e= .returned (.tuple #[])∧u'= .panicking [{ v:=.iface 130 (.agg #[.int .i64 er]),recovered:=true }]∧au w' b #[.string ⟨#[]⟩,.string ⟨#[]⟩,.string ⟨#[]⟩,.string ⟨#[]⟩,.string ⟨#[]⟩,.string ⟨#[]⟩] 37∧au w' c #[.int .i64 er] 45∧∀ w0:World,w0.heap.size≤b→w0.heap.size≤c→Below w0.heap.size w0 w→Below w0.heap.size w0 w'):=⟨_,zh rfl⟩
 rw [← HR.out]
 go_wp2_with fail
 simp only [bodyPostS]
 refine ⟨trivial,_,rfl,_,results_none rfl _ _ _,?_⟩
 rw [HR.out]
 refine ⟨rfl,rfl,?_,?_,fun w0 h1 h2 h3=>?_⟩
 ·apply qB
  ·exact aJ
  ·simp only [List.setIfInBounds_toArray,List.set_cons_zero,List.set_cons_succ]
 ·apply qB
  ·exact aJ
  ·simp only [List.setIfInBounds_toArray,List.set_cons_zero,List.set_cons_succ]
 ·exact aA
theorem Jg (p q:Addr) (w:World) :
  CallsD Tryz.prog 111 #[.pointer (some p),.pointer (some q)] .returning w fun e u' w'=>e= .returned (.tuple #[])∧u'= .returning∧w'=w:=by
 refine callsD_of_wpS Tryz.func111 rfl fun c₀ cs hu=>?_
 simp only [Tryz.ntmps111,List.size_toArray,List.length_cons,List.length_nil,Nat.reduceAdd,Nat.reduceSub,Array.replicate_succ,Array.replicate_zero,List.push_toArray,List.append_toArray,List.nil_append,List.cons_append]
 refine wpS_seq (wpS_region ?_)
 generalize hQ:Exit.thenS _ _=Q
 simp [wpOpsS,go_sem,recoverD,hu]
 rw [← hQ]
 clear hQ
 refine wpS_of_wp ?_
 go_wp2_with fail
 cases c₀
 simp_all [bodyPostS,results,Tryz.results111]
theorem ae4 (b c:Nat) (s1 s2 s3 s4 s5 s6:ByteArray) (z er:Int) (w:World) (hb:au w b #[.string s1,.string s2,.string s3,.string s4,.string s5,.string s6] 38) (hc:au w c #[.int .i64 z] 45) :
  CallsD Tryz.prog 111 #[.pointer (some ⟨b,0,none⟩),.pointer (some ⟨c,0,none⟩)] (caught er false) w fun e u' w' =>
   e= .returned (.tuple #[])∧u'=caught er true∧au w' b #[.string ⟨#[]⟩,.string ⟨#[]⟩,.string ⟨#[]⟩,.string ⟨#[]⟩,.string ⟨#[]⟩,.string ⟨#[]⟩] 38∧au w' c #[.int .i64 er] 45∧∀ w0:World,w0.heap.size≤b→w0.heap.size≤c→Below w0.heap.size w0 w→Below w0.heap.size w0 w':=by
 unfold caught
 refine callsD_of_wpS Tryz.func111 rfl fun c₀ cs hu=>?_
 simp only [Tryz.ntmps111,List.size_toArray,List.length_cons,List.length_nil,Nat.reduceAdd,Nat.reduceSub,Array.replicate_succ,Array.replicate_zero,List.push_toArray,List.append_toArray,List.nil_append,List.cons_append]
 refine wpS_seq (wpS_region ?_)
 generalize hQ:Exit.thenS _ _=Q
 simp [wpOpsS,go_sem,recoverD,hu]
 rw [← hQ]
 clear hQ
 refine wpS_of_wp ?_
 have cb:=hb.cell
 have fb:=hb.free
 have cc:=hc.cell
 have fc:=hc.free
 have lb:=hb.lt
 have lc:=hc.lt
 have hne:b≠c:=hb.ne hc zd
 have hne2:c≠b:=fun e=>hne e.symm
 have hta:=yE er
 obtain ⟨R,HR⟩:∃ R:Ending→FrameMode→World→Prop,Hid (R=fun e u' w'=>e= .returned (.tuple #[])∧u'= .panicking [{ v:=.iface 130 (.agg #[.int .i64 er]),recovered:=true }]∧au w' b #[.string ⟨#[]⟩,.string ⟨#[]⟩,.string ⟨#[]⟩,.string ⟨#[]⟩,.string ⟨#[]⟩,.string ⟨#[]⟩] 38∧au w' c #[.int .i64 er] 45∧∀ w0:World,w0.heap.size≤b→w0.heap.size≤c→Below w0.heap.size w0 w→Below w0.heap.size w0 w'):=⟨_,zh rfl⟩
 rw [← HR.out]
 go_wp2_with fail
 simp only [bodyPostS]
 refine ⟨trivial,_,rfl,_,results_none rfl _ _ _,?_⟩
 rw [HR.out]
 refine ⟨rfl,rfl,?_,?_,fun w0 h1 h2 h3=>?_⟩
 ·apply qB
  ·exact aJ
  ·simp only [List.setIfInBounds_toArray,List.set_cons_zero,List.set_cons_succ]
 ·apply qB
  ·exact aJ
  ·simp only [List.setIfInBounds_toArray,List.set_cons_zero,List.set_cons_succ]
 ·exact aA
theorem fu {P:Program} {fn:Func} {w:World} {tmps:Array Value} {p q:Tmp} {ty Xq:TypeId} {g g2:Nat} {x y:Value} (h:fn.results=#[.cell p ty,.cell q Xq])
  (hp:tmps.getD p undef= .pointer (some ⟨g,0,none⟩)) (hq:tmps.getD q undef= .pointer (some ⟨g2,0,none⟩)) (h1:(loadVar ty ⟨g,0,none⟩).run P w= .ok x w) (h2:(loadVar Xq ⟨g2,0,none⟩).run P w= .ok y w) :
  (results fn tmps).run P w= .ok (.tuple #[x,y]) w:=by
 have hp':tmps[p]?.getD undef= .pointer (some ⟨g,0,none⟩):=by simpa using hp
 have hq':tmps[q]?.getD undef= .pointer (some ⟨g2,0,none⟩):=by simpa using hq
 simp [results,h,hp',hq',asAddr,h1,h2]
theorem lJ {w:World} {c:Nat} {z:Int} (h:au w c #[.int .i64 z] 45):(loadVar 45 ⟨c,0,none⟩).run Tryz.prog w= .ok (.int .i64 z) w:=by
 have hc:=h.cell 0
 simp [go_sem,hc]
theorem Im {w:World} {b:Nat} {a:Option Addr} {n c:Nat} (h:au w b #[.slice a n c] 44):(loadVar 44 ⟨b,0,none⟩).run Tryz.prog w= .ok (.slice a n c) w:=by
 have hc:=h.cell 0
 simp [go_sem,hc]
theorem RH {w:World} {b:Nat} {s1 s2 s3 s4 s5 s6:ByteArray} (h:au w b #[.string s1,.string s2,.string s3,.string s4,.string s5,.string s6] 37):(loadVar 37 ⟨b,0,none⟩).run Tryz.prog w= .ok (.agg #[.string s1,.string s2,.string s3,.string s4,.string s5,.string s6]) w :=
 run_loadVar_row w b 37 37 _ (0,0) _ h Tryz.underlying37 rfl zk
theorem RG {w:World} {b:Nat} {s1 s2 s3 s4 s5 s6:ByteArray} (h:au w b #[.string s1,.string s2,.string s3,.string s4,.string s5,.string s6] 38):(loadVar 38 ⟨b,0,none⟩).run Tryz.prog w= .ok (.agg #[.string s1,.string s2,.string s3,.string s4,.string s5,.string s6]) w :=
 run_loadVar_row w b 38 38 _ (0,0) _ h Tryz.underlying38 rfl zk
theorem bQ.kept {l:List TypeId} {w w':World} {v:Value} {m:List (List Fr)} (h:bQ w v m) (k:Keep l w w') (h1:56∉l) (h2:36∉l):bQ w' v m:=by
 obtain ⟨rs,g1,g2,g3⟩:=h
 exact ⟨rs,dx.Row.kept g1 k h1,g2,fun i h h'=>jL.kept (g3 i h h') k h2⟩
theorem ze (f:FuncId) (caps:Array Value) (er:Int) (m:List (List Fr)) (w:World) (HC:∀ W,Below w.heap.size w W→Calls Tryz.prog f caps W (aU W er (fun v W'=>bQ W' v m)))
  (hf:∀ args W,(callFunc f args).run Tryz.prog W= .ok (.enter f args) W) :
  Calls Tryz.prog 34 #[.func (.func f) #[] caps] w (aQ w er m):=by
 have M4:∀ (fn:Fn) (first cap:Array Value) (w:World),(Instr.makeFunc fn first cap).run Tryz.prog w= .ok (.func fn first cap) w:=fun _ _ _ _=>rfl
 have Uk:=zh HC
 clear HC
 have hb0:Below w.heap.size w ((w.alloc (.cells #[.slice none 0 0] 44)).alloc (.cells #[.int .i64 0] 45)):=aA
 obtain ⟨w0,kE⟩:∃ y,(w.alloc (.cells #[.slice none 0 0] 44)).alloc (.cells #[.int .i64 0] 45)=y:=⟨_,rfl⟩
 have hx1:au w0 w.heap.size #[.slice none 0 0] 44:=by rw [← kE];exact aJ
 have hx2:au w0 (w.heap.size+1) #[.int .i64 0] 45:=by rw [← kE];exact aJ
 rw [kE] at hb0
 go_enter_defers Tryz.func34,Tryz.ntmps34
 go_wp2_with fail
 refine (Uk.out _ hb0).mono ?_
 rintro e w1 ⟨hb1,⟨rfl,v,rfl,hv⟩|⟨h,rfl⟩⟩
 ·obtain ⟨rs,hR,hl,hF⟩:=id hv
  obtain ⟨a,cap,rfl, -⟩:=hR
  replace hx1:=hx1.later hb1
  replace hx2:=hx2.later hb1
  have c1:=hx1.cell
  have f1:=hx1.free
  have c2:=hx2.cell
  have f2:=hx2.free
  have HV:=zh hv
  have hx3:au ((w1.setCell ⟨w.heap.size,0,none⟩ (.slice a rs.length cap)).setCell ⟨w.heap.size+1,0,none⟩ (.int .i64 0)) w.heap.size #[.slice a rs.length cap] 44:=(hx1.set 0 (.slice a rs.length cap)).setOther (a:=⟨w.heap.size+1,0,none⟩) (.int .i64 0) zi
  have hx4:au ((w1.setCell ⟨w.heap.size,0,none⟩ (.slice a rs.length cap)).setCell ⟨w.heap.size+1,0,none⟩ (.int .i64 0)) (w.heap.size+1) #[.int .i64 0] 45:=(hx2.setOther (a:=⟨w.heap.size,0,none⟩) (.slice a rs.length cap) zi).set 0 (.int .i64 0)
  have hv2:=bQ.kept hv ((Keep.setCell (o:=0) (u:=.slice a rs.length cap) hx1.uL).mono (m:=[44,45]) zi) zd zd
  have hv3:=bQ.kept hv2 ((Keep.setCell (o:=0) (u:=.int .i64 0) (hx2.uL.setCell (a:=⟨w.heap.size,0,none⟩) (u:=.slice a rs.length cap))).mono (m:=[44,45]) zi) zd zd
  have HV:=zh hv3
  have hbw:=((Bt hb0 hb1).setCell (p:=⟨w.heap.size,0,none⟩) (Nat.le_refl _) (.slice a rs.length cap)).setCell (p:=⟨w.heap.size+1,0,none⟩) zi (.int .i64 0)
  rw [hl] at hx3 hx4 HV hbw
  clear hF hv hv2 hv3
  go_wp2_with fail
  refine leaves_cons (f:=79) (args:=#[.pointer (some ⟨w.heap.size,0,none⟩),.pointer (some ⟨w.heap.size+1,0,none⟩)]) zi (by simp [go_sem]) ?_
  refine (Jh _ _ _).mono ?_
  rintro e u' w'' ⟨rfl,rfl,rfl⟩
  exact ⟨_,fu rfl rfl rfl (Im hx3) (lJ hx4),aQ.yes hbw HV.out⟩
 ·replace hx1:=hx1.later hb1
  replace hx2:=hx2.later hb1
  change bodyPostD _ _ _ (Exit.panic [{ v:=.iface 130 (.agg #[.int .i64 er]),recovered:=false }]) _ _
  refine leaves_cons (f:=79) (args:=#[.pointer (some ⟨w.heap.size,0,none⟩),.pointer (some ⟨w.heap.size+1,0,none⟩)]) zi (by simp [go_sem]) ?_
  refine (ae5 w.heap.size (w.heap.size+1) _ _ er _ hx1 hx2).mono ?_
  rintro e u' w'' ⟨rfl,rfl,hy1,hy2,hbb⟩
  exact ⟨_,fu rfl rfl rfl (Im hy1) (lJ hy2),aQ.no (hbb w (Nat.le_refl _) zo (Bt hb0 hb1)) h⟩
def yS:light.aW:=⟨Fr.no,Fr.no,Fr.no⟩
def jV (w:World) (er:Int) (t:light.aW) (e:Ending) (w':World):Prop:=Below w.heap.size w w'∧e= .returned (.tuple #[(if er=0 then t else yS).v,.int .i64 er])
theorem Jr (f:FuncId) (caps:Array Value) (er:Int) (t:light.aW) (w:World) (HC:∀ W,Below w.heap.size w W→Calls Tryz.prog f caps W (aU W er (fun v W'=>v=t.v)))
  (hf:∀ args W,(callFunc f args).run Tryz.prog W= .ok (.enter f args) W) :
  Calls Tryz.prog 70 #[.func (.func f) #[] caps] w (jV w er t):=by
 have M4:∀ (fn:Fn) (first cap:Array Value) (w:World),(Instr.makeFunc fn first cap).run Tryz.prog w= .ok (.func fn first cap) w:=fun _ _ _ _=>rfl
 obtain ⟨⟨a1,a2⟩,⟨a3,a4⟩,⟨a5,a6⟩⟩:=t
 have Uk:=zh HC
 clear HC
 have hb0:Below w.heap.size w ((w.alloc (.cells #[.string ⟨#[]⟩,.string ⟨#[]⟩,.string ⟨#[]⟩,.string ⟨#[]⟩,.string ⟨#[]⟩,.string ⟨#[]⟩] 37)).alloc (.cells #[.int .i64 0] 45)):=aA
 obtain ⟨w0,kE⟩:∃ y,(w.alloc (.cells #[.string ⟨#[]⟩,.string ⟨#[]⟩,.string ⟨#[]⟩,.string ⟨#[]⟩,.string ⟨#[]⟩,.string ⟨#[]⟩] 37)).alloc (.cells #[.int .i64 0] 45)=y:=⟨_,rfl⟩
 have hx1:au w0 w.heap.size #[.string ⟨#[]⟩,.string ⟨#[]⟩,.string ⟨#[]⟩,.string ⟨#[]⟩,.string ⟨#[]⟩,.string ⟨#[]⟩] 37:=by rw [← kE];exact aJ
 have hx2:au w0 (w.heap.size+1) #[.int .i64 0] 45:=by rw [← kE];exact aJ
 rw [kE] at hb0
 go_enter_defers Tryz.func70,Tryz.ntmps70
 go_wp2_with fail
 refine (Uk.out _ hb0).mono ?_
 rintro e w1 ⟨hb1,⟨rfl,v,rfl,rfl⟩|⟨h,rfl⟩⟩
 ·replace hx1:=hx1.later hb1
  replace hx2:=hx2.later hb1
  have c1:=hx1.cell
  have f1:=hx1.free
  have c2:=hx2.cell
  have f2:=hx2.free
  have hne:w.heap.size≠w.heap.size+1:=by omega
  have hx3:au (((((((w1.setCell ⟨w.heap.size,0,none⟩ (.string a1)).setCell ⟨w.heap.size,1,none⟩ (.string a2)).setCell ⟨w.heap.size,2,none⟩ (.string a3)).setCell ⟨w.heap.size,3,none⟩ (.string a4)).setCell ⟨w.heap.size,4,none⟩ (.string a5)).setCell ⟨w.heap.size,5,none⟩ (.string a6)).setCell ⟨w.heap.size+1,0,none⟩ (.int .i64 0)) w.heap.size #[.string a1,.string a2,.string a3,.string a4,.string a5,.string a6] 37:=((((((hx1.set 0 _).set 1 _).set 2 _).set 3 _).set 4 _).set 5 _).setOther _ hne
  have hx4:au (((((((w1.setCell ⟨w.heap.size,0,none⟩ (.string a1)).setCell ⟨w.heap.size,1,none⟩ (.string a2)).setCell ⟨w.heap.size,2,none⟩ (.string a3)).setCell ⟨w.heap.size,3,none⟩ (.string a4)).setCell ⟨w.heap.size,4,none⟩ (.string a5)).setCell ⟨w.heap.size,5,none⟩ (.string a6)).setCell ⟨w.heap.size+1,0,none⟩ (.int .i64 0)) (w.heap.size+1) #[.int .i64 0] 45:=((((((hx2.setOther _ hne.symm).setOther _ hne.symm).setOther _ hne.symm).setOther _ hne.symm).setOther _ hne.symm).setOther _ hne.symm).set 0 _
  have hbw:Below w.heap.size w (((((((w1.setCell ⟨w.heap.size,0,none⟩ (.string a1)).setCell ⟨w.heap.size,1,none⟩ (.string a2)).setCell ⟨w.heap.size,2,none⟩ (.string a3)).setCell ⟨w.heap.size,3,none⟩ (.string a4)).setCell ⟨w.heap.size,4,none⟩ (.string a5)).setCell ⟨w.heap.size,5,none⟩ (.string a6)).setCell ⟨w.heap.size+1,0,none⟩ (.int .i64 0)):=by
   have:=Bt hb0 hb1
   exact aA
  have LU:=zh hx3
  have WM:=zh hx4
  have HBW:=zh hbw
  clear hx3 hx4 hbw kE hx1 hx2 hb0 hb1
  unfold light.aW.v light.aW.cells
  go_wp2_with fail
  refine leaves_cons (f:=133) (args:=#[.pointer (some ⟨w.heap.size,0,none⟩),.pointer (some ⟨w.heap.size+1,0,none⟩)]) zi (by simp [go_sem]) ?_
  refine (Ji _ _ _).mono ?_
  rintro e u' w'' ⟨rfl,rfl,rfl⟩
  exact ⟨_,fu rfl rfl rfl (RH LU.out) (lJ WM.out),HBW.out,rfl⟩
 ·replace hx1:=hx1.later hb1
  replace hx2:=hx2.later hb1
  change bodyPostD _ _ _ (Exit.panic [{ v:=.iface 130 (.agg #[.int .i64 er]),recovered:=false }]) _ _
  refine leaves_cons (f:=133) (args:=#[.pointer (some ⟨w.heap.size,0,none⟩),.pointer (some ⟨w.heap.size+1,0,none⟩)]) zi (by simp [go_sem]) ?_
  refine (ae6 w.heap.size (w.heap.size+1) _ _ _ _ _ _ _ er _ hx1 hx2).mono ?_
  rintro e u' w'' ⟨rfl,rfl,hy1,hy2,hbb⟩
  exact ⟨_,fu rfl rfl rfl (RH hy1) (lJ hy2),hbb w (Nat.le_refl _) zo (Bt hb0 hb1),by rw [if_neg h];rfl⟩
theorem Jq (f:FuncId) (caps:Array Value) (er:Int) (t:light.aW) (w:World) (HC:∀ W,Below w.heap.size w W→Calls Tryz.prog f caps W (aU W er (fun v W'=>v=t.v)))
  (hf:∀ args W,(callFunc f args).run Tryz.prog W= .ok (.enter f args) W) :
  Calls Tryz.prog 47 #[.func (.func f) #[] caps] w (jV w er t):=by
 have M4:∀ (fn:Fn) (first cap:Array Value) (w:World),(Instr.makeFunc fn first cap).run Tryz.prog w= .ok (.func fn first cap) w:=fun _ _ _ _=>rfl
 obtain ⟨⟨a1,a2⟩,⟨a3,a4⟩,⟨a5,a6⟩⟩:=t
 have Uk:=zh HC
 clear HC
 have hb0:Below w.heap.size w ((w.alloc (.cells #[.string ⟨#[]⟩,.string ⟨#[]⟩,.string ⟨#[]⟩,.string ⟨#[]⟩,.string ⟨#[]⟩,.string ⟨#[]⟩] 38)).alloc (.cells #[.int .i64 0] 45)):=aA
 obtain ⟨w0,kE⟩:∃ y,(w.alloc (.cells #[.string ⟨#[]⟩,.string ⟨#[]⟩,.string ⟨#[]⟩,.string ⟨#[]⟩,.string ⟨#[]⟩,.string ⟨#[]⟩] 38)).alloc (.cells #[.int .i64 0] 45)=y:=⟨_,rfl⟩
 have hx1:au w0 w.heap.size #[.string ⟨#[]⟩,.string ⟨#[]⟩,.string ⟨#[]⟩,.string ⟨#[]⟩,.string ⟨#[]⟩,.string ⟨#[]⟩] 38:=by rw [← kE];exact aJ
 have hx2:au w0 (w.heap.size+1) #[.int .i64 0] 45:=by rw [← kE];exact aJ
 rw [kE] at hb0
 go_enter_defers Tryz.func47,Tryz.ntmps47
 go_wp2_with fail
 refine (Uk.out _ hb0).mono ?_
 rintro e w1 ⟨hb1,⟨rfl,v,rfl,rfl⟩|⟨h,rfl⟩⟩
 ·replace hx1:=hx1.later hb1
  replace hx2:=hx2.later hb1
  have c1:=hx1.cell
  have f1:=hx1.free
  have c2:=hx2.cell
  have f2:=hx2.free
  have hne:w.heap.size≠w.heap.size+1:=by omega
  have hx3:au (((((((w1.setCell ⟨w.heap.size,0,none⟩ (.string a1)).setCell ⟨w.heap.size,1,none⟩ (.string a2)).setCell ⟨w.heap.size,2,none⟩ (.string a3)).setCell ⟨w.heap.size,3,none⟩ (.string a4)).setCell ⟨w.heap.size,4,none⟩ (.string a5)).setCell ⟨w.heap.size,5,none⟩ (.string a6)).setCell ⟨w.heap.size+1,0,none⟩ (.int .i64 0)) w.heap.size #[.string a1,.string a2,.string a3,.string a4,.string a5,.string a6] 38:=((((((hx1.set 0 _).set 1 _).set 2 _).set 3 _).set 4 _).set 5 _).setOther _ hne
  have hx4:au (((((((w1.setCell ⟨w.heap.size,0,none⟩ (.string a1)).setCell ⟨w.heap.size,1,none⟩ (.string a2)).setCell ⟨w.heap.size,2,none⟩ (.string a3)).setCell ⟨w.heap.size,3,none⟩ (.string a4)).setCell ⟨w.heap.size,4,none⟩ (.string a5)).setCell ⟨w.heap.size,5,none⟩ (.string a6)).setCell ⟨w.heap.size+1,0,none⟩ (.int .i64 0)) (w.heap.size+1) #[.int .i64 0] 45:=((((((hx2.setOther _ hne.symm).setOther _ hne.symm).setOther _ hne.symm).setOther _ hne.symm).setOther _ hne.symm).setOther _ hne.symm).set 0 _
  have hbw:Below w.heap.size w (((((((w1.setCell ⟨w.heap.size,0,none⟩ (.string a1)).setCell ⟨w.heap.size,1,none⟩ (.string a2)).setCell ⟨w.heap.size,2,none⟩ (.string a3)).setCell ⟨w.heap.size,3,none⟩ (.string a4)).setCell ⟨w.heap.size,4,none⟩ (.string a5)).setCell ⟨w.heap.size,5,none⟩ (.string a6)).setCell ⟨w.heap.size+1,0,none⟩ (.int .i64 0)):=by
   have:=Bt hb0 hb1
   exact aA
  have LU:=zh hx3
  have WM:=zh hx4
  have HBW:=zh hbw
  clear hx3 hx4 hbw kE hx1 hx2 hb0 hb1
  unfold light.aW.v light.aW.cells
  go_wp2_with fail
  refine leaves_cons (f:=111) (args:=#[.pointer (some ⟨w.heap.size,0,none⟩),.pointer (some ⟨w.heap.size+1,0,none⟩)]) zi (by simp [go_sem]) ?_
  refine (Jg _ _ _).mono ?_
  rintro e u' w'' ⟨rfl,rfl,rfl⟩
  exact ⟨_,fu rfl rfl rfl (RG LU.out) (lJ WM.out),HBW.out,rfl⟩
 ·replace hx1:=hx1.later hb1
  replace hx2:=hx2.later hb1
  change bodyPostD _ _ _ (Exit.panic [{ v:=.iface 130 (.agg #[.int .i64 er]),recovered:=false }]) _ _
  refine leaves_cons (f:=111) (args:=#[.pointer (some ⟨w.heap.size,0,none⟩),.pointer (some ⟨w.heap.size+1,0,none⟩)]) zi (by simp [go_sem]) ?_
  refine (ae4 w.heap.size (w.heap.size+1) _ _ _ _ _ _ _ er _ hx1 hx2).mono ?_
  rintro e u' w'' ⟨rfl,rfl,hy1,hy2,hbb⟩
  exact ⟨_,fu rfl rfl rfl (RG hy1) (lJ hy2),hbb w (Nat.le_refl _) zo (Bt hb0 hb1),by rw [if_neg h];rfl⟩
def lS:List Int:=[100000,0,0,0,100000,0,0,0,100000,40024,70760, -8081, -22630,116532,4570,0,0,91822,89510,26640, -16140, -75020,171350,3670,3890, -6850,102960,89500,26640, -16140, -75020,171350,3670,3890, -6850,102960]
def kr (w : World) : Prop := Lib.TabIs Tryz.prog w "verdigris/adapt.cones" .i64 lS
theorem kr.later {w w':World} (h:kr w) (hb:Below w.heap.size w w'):kr w':=Lib.tabBelow_of_tabIs h w' hb
theorem kr.cell {w:World} (h:kr w) {k:Nat} (hk:k<36):w.cell? ⟨0,k,none⟩=some (.int .i64 (lS.getD k 0)):=by
 exact Lib.TabIs.cell h zk k hk
def kR (m i j:Nat):Rat:=((lS.getD (m*9+i*3+j) 0:Int):Rat) / ((100000:Int):Rat)
theorem I9:∀ m,m<4→∀ i,i<3→∀ j,j<3→dz (kR m i j)=true:=by decide+kernel
def aY (m:Nat):matrix.RM:=(List.range 3).map fun i=>(List.range 3).map (kR m i)
theorem xg:∀ k,k<36→ -1000000≤lS.getD k 0∧lS.getD k 0≤1000000:=by decide+kernel
theorem Tw (bk m:Nat) (hm:m<4) (w:World) (hk:au w bk #[.int .i64 ((m:Int)+1)] 3) (ht:pE.Pow w) (hc:kr w) :
  Calls Tryz.prog 73 #[.pointer (some ⟨bk,0,none⟩)] w (aU w 0 (fun v w'=>bQ w' v (aY m).fr)):=by
 obtain ⟨PD,Bh,hmk⟩:=matrix.wJ 3 zo
 obtain ⟨GH,Iz,M4⟩:=matrix.wK 3 zo
 replace hmk:∀ W:World,(Instr.makeSlice 44 (.int .i64 3) (.int .i64 3)).run Tryz.prog W= .ok (.slice (some ⟨W.heap.size,0,none⟩) 3 3) (W.alloc (.cells PD 56)):=hmk
 replace M4:∀ W:World,(Instr.makeSlice 56 (.int .i64 3) (.int .i64 3)).run Tryz.prog W= .ok (.slice (some ⟨W.heap.size,0,none⟩) 3 3) (W.alloc (.cells GH 36)):=M4
 have LX:=zh Bh
 have HCF:=zh Iz
 have HT:=zh ht
 have HC:=zh hc
 have HK:=zh hk
 have lk:=hk.lt
 have l0:0<w.heap.size:=by
  have:=hc.cell (k:=0) zo
  rcases Nat.lt_or_ge 0 w.heap.size with h|h
  ·exact h
  ·unfold World.cell? at this
   simp only [Array.getElem?_eq_none h] at this
   cases this
 obtain ⟨E,EE⟩:∃ E:Nat→Nat→Rat,Hid (kR m=E):=⟨_,zh rfl⟩
 clear Bh Iz ht hc hk
 have hM0:=au.new w PD 56
 have HM:=zh (matrix.fK.xS (f:=fun i=>((List.range 3).map (E i)).map Fr.of) hM0 LX.out)
 have XQ:Below w.heap.size w (w.alloc (.cells PD 56)):=aA
 clear hM0
 go_enter Tryz.func73,Tryz.ntmps73
 go_wp2_with fail
 go_loopw [6] (fun iv wr=>∃ r:Nat,iv= .int .i64 (r:Int)∧r≤3∧Hid (fK wr w.heap.size 3 r (fun i=>((List.range 3).map (E i)).map Fr.of))∧Below w.heap.size w wr) (fun iv _=>3 - (intOf iv).toNat)
 case atStart=>exact ⟨0,rfl,by omega,HM,XQ⟩
 case round =>
  clear HM XQ
  obtain ⟨r,rfl,hr,HM,hb⟩:=hrel
  obtain ⟨wo,hwo⟩:∃ y,y=wr:=⟨_,rfl⟩
  subst hwo
  have lM:=HM.out.lt
  rcases Nat.lt_or_ge r 3 with hlt|hge
  ·have hlt2:(r:Int)<3:=by omega
   obtain ⟨⟨y1,GD⟩,fy⟩:=HM.out.cell hlt
   obtain ⟨qD,bM,hsz, -⟩:=HM.out
   have Qc:=zh bM
   have hrs:r<qD.size:=by omega
   clear bM hsz
   go_wp2_with fail
   clear GD fy
   have hGM:wo.heap.size≠w.heap.size:=by omega
   have Pt:w.heap.size≠wo.heap.size:=by omega
   have XO:au ((wo.setCell ⟨w.heap.size,r,none⟩ (.slice (some ⟨wo.heap.size,0,none⟩) 3 3)).alloc (.cells GH 36 (0,0))) wo.heap.size GH 36:=au.pJ zi
   have HF:=zh (show Fill _ wo.heap.size 36 3 0 (xM fun i=>Fr.of (E r i)) from ⟨GH,XO,HCF.out,fun i hi=>by omega⟩)
   have HB:=zh ((Qc.out.set r (.slice (some ⟨wo.heap.size,0,none⟩) 3 3)).alloc (.cells GH 36 (0,0)))
   have HN:=zh (((gL.refl wo w.heap.size).set r (.slice (some ⟨wo.heap.size,0,none⟩) 3 3)).below (w':=(wo.setCell ⟨w.heap.size,r,none⟩ (.slice (some ⟨wo.heap.size,0,none⟩) 3 3)).alloc (.cells GH 36 (0,0))) aA)
   clear XO
   go_loopw [13] (fun iv wr=>∃ c:Nat,iv= .int .i64 (c:Int)∧c≤3∧Hid (Fill wr wo.heap.size 36 3 c (xM fun i=>Fr.of (E r i)))∧Hid (au wr w.heap.size (qD.setIfInBounds r (.slice (some ⟨wo.heap.size,0,none⟩) 3 3)) 56)∧Hid (gL wo wr w.heap.size)) (fun iv _=>3 - (intOf iv).toNat)
   case atStart=>exact ⟨0,rfl,by omega,HF,HB,HN⟩
   case round =>
    clear HF HB HN
    obtain ⟨c,rfl,hcn,HF,HB,HN⟩:=hrel
    rcases Nat.lt_or_ge c 3 with hcl|hcl
    ·have Po:(c:Int)<3:=by omega
     have hbv:Below w.heap.size w wr:=HN.out.toBelow hb (Nat.le_refl _)
     have aq0:m*9+r*3+c<36:=by omega
     have cg:=(HC.out.later hbv).cell aq0
     have ck:=(HK.out.later hbv).cell
     have lkr:=Nat.lt_of_lt_of_le lk hbv.size
     have l0r:=Nat.lt_of_lt_of_le l0 hbv.size
     have cM:=HB.out.cell r
     rw [Array.getElem?_setIfInBounds,if_pos rfl,if_pos hrs] at cM
     have lMr:=HB.out.lt
     have hok:=I9 m hm r hlt c hcl
     have hqe:kR m r c=E r c:=by rw [EE.out]
     have VL:kR m r c=((lS.getD (m*9+r*3+c) 0:Int):Rat) / ((100000:Int):Rat):=rfl
     have hsm:=xg _ aq0
     rw [hqe] at hok VL
     generalize lS.getD (m*9+r*3+c) 0=z at *
     obtain ⟨q,EQ⟩:∃ x:Rat,Hid (E r c=x):=⟨_,zh rfl⟩
     rw [EQ.out] at hok VL
     have P6:Hid (Fr.res (yR z 100000)= .tuple #[.agg #[.string (Fr.of q).n,.string (Fr.of q).d],.int .i64 0]):=zh (by
      unfold yR dx.wr
      rw [if_neg zd,← VL,if_pos hok]
      rfl)
     obtain ⟨s1,N9⟩:∃ x:ByteArray,Hid ((Fr.of q).n=x):=⟨_,zh rfl⟩
     obtain ⟨s2,N8⟩:∃ x:ByteArray,Hid ((Fr.of q).d=x):=⟨_,zh rfl⟩
     rw [N9.out,N8.out] at P6
     have Xa:=zh (HT.out.later hbv)
     have HS1:=zh hsm.1
     have HS2:=zh hsm.2
     have lG:=HF.out.lt
     have hm2:(m:Int)<4:=by omega
     have hwm:IntKind.i64.wrap (m:Int)=(m:Int):=by rw [IntKind.wrap_i64];omega
     clear hok hqe VL hsm
     go_wp2_with fail
     refine aC [(.pure,0),(.pure,1),(.pure,2),(.read,3),(.pure,4),(.read,5),(.pure,6),(.pure,7),(.pure,8),(.pure,9),(.pure,10),(.pure,11),(.read,12),(.ext,13),(.pure,14),(.pure,15),(.ext,16),(.pure,17),(.fin,18)] zk zk zR zP ?_
     repeat (first|(refine ah rfl rfl fun J h=>?_;go_simp;refine h _ ?_;clear h J)|(refine aB rfl rfl rfl rfl fun J h=>?_;go_simp;refine h _ ?_;clear h J;try go_simp))
     refine aD rfl rfl (fun w2 hb2 J hJ=>?_);go_simp
     have hb2':Below wr.heap.size wr w2:=aA
     refine ((dG.tO z 100000 (by have:=HS1.out;omega) (by have:=HS2.out;omega) zo zo w2 (Xa.out.later hb2')).mono (by rw [P6.out];exact fun _ _ h=>h)).mono ?_
     rintro e w3 ⟨rfl,hb3⟩
     refine hJ _ _ hb3 ?_
     clear hJ J
     repeat (first|(refine ah rfl rfl fun J h=>?_;go_simp;refine h _ ?_;clear h J)|(refine aB rfl rfl rfl rfl fun J h=>?_;go_simp;refine h _ ?_;clear h J;try go_simp))
     refine aD rfl rfl (fun w4 hb4 J hJ=>?_);go_simp
     refine (qo ⟨s1,s2⟩ w4).mono ?_
     unfold Fr.v
     rintro e w5 ⟨rfl,hb5⟩
     refine hJ _ _ hb5 ?_
     clear hJ J
     repeat (first|(refine ah rfl rfl fun J h=>?_;go_simp;refine h _ ?_;clear h J)|(refine aB rfl rfl rfl rfl fun J h=>?_;go_simp;refine h _ ?_;clear h J;try go_simp))
     refine aI [_] rfl (fun w6 hb6=>?_)
     have hx6:Below wr.heap.size wr w6:=aA
     replace HF:=zh (HF.out.yc hx6)
     replace HB:=zh (HB.out.later hx6)
     replace HN:=zh (HN.out.below hx6)
     obtain ⟨⟨y1,GD⟩,⟨y2,Ya⟩,fy⟩:=HF.out.cells hcl
     have lG6:=HF.out.lt
     clear hb6 hx6 cM lMr cg ck
     go_wp2_with fail
     go_roundw
     case rel =>
      refine ⟨c+1,by go_num,by omega,zh (HF.out.step hcl (fun _ _ _ h=>h) ⟨?_,?_⟩),zh ((HB.out.setOther _ Pt).setOther _ Pt),zh ((HN.out.gI (Nat.le_refl _) _ _).gI (Nat.le_refl _) _ _)⟩
      ·show Value.string s1= .string (Fr.of (E r c)).n
       rw [EQ.out,N9.out]
      ·show Value.string s2= .string (Fr.of (E r c)).d
       rw [EQ.out,N8.out]
     case measure=>exact zM
    ·have Sj:c=3:=by omega
     subst Sj
     go_wp2_with fail
     go_roundw
     case rel =>
      have hbv:Below w.heap.size w wr:=HN.out.toBelow hb (Nat.le_refl _)
      refine ⟨r+1,by go_num,by omega,zh (HM.out.step (v:=.slice (some ⟨wo.heap.size,0,none⟩) 3 3) hlt HN.out (fun arr hA=>?_) ?_),hbv⟩
      ·have hAM:arr=qD:=dx.au.uniq hA Qc.out
       rw [hAM]
       exact HB.out
      ·refine Fill.C8 (HF.out.BF fun i hi=>?_) zi zo
       have hc3:i=0∨i=1∨i=2:=by omega
       rcases hc3 with rfl|rfl|rfl<;>rfl
     case measure=>exact zM
  ·have hrn:r=3:=by omega
   subst hrn
   have hmv:bQ wo (.slice (some ⟨w.heap.size,0,none⟩) 3 3) (aY m).fr:=by
    have:bQ wo (.slice (some ⟨w.heap.size,0,none⟩) (aY m).fr.length (aY m).fr.length) (aY m).fr:=by
     refine fK.Cy ?_ (by show 3≤1000000;omega)
     obtain ⟨arr,k1,k2,k3⟩:=HM.out
     refine ⟨arr,k1,k2,fun i hi=>?_⟩
     have hi3:i<3:=hi
     obtain ⟨v,g1,g2⟩:=k3 i hi3
     refine ⟨v,g1,?_⟩
     rw [← EE.out] at g2
     have hc3:i=0∨i=1∨i=2:=by omega
     rcases hc3 with rfl|rfl|rfl<;>exact g2
    exact this
   have vT:=zh hmv
   clear hmv
   go_wp2_with fail
   go_ret
   exact aU.yes hb vT.out
def iB (k:Int):Int:=if k<1∨4<k then 2 else 0
theorem Uv (k:Int) (h:k<1∨4<k) (m:List (List Fr)) (w:World) :
  Calls Tryz.prog 30 #[.int .i64 k] w (aQ w 2 m):=by
 rcases h with h|h
 ·have q1:decide (k<1)=true:=by simp;omega
  clear h
  go_enter Tryz.func30,Tryz.ntmps30
  go_wp2_with fail
  go_ret2
  exact aQ.no aA zd
 ·have q1:decide (k<1)=false:=by simp;omega
  have q2:decide (4<k)=true:=by simp;omega
  clear h
  go_enter Tryz.func30,Tryz.ntmps30
  go_wp2_with fail
  go_ret2
  exact aQ.no aA zd
theorem Qf (m:Nat) (hm:m<4) (w:World) (ht:pE.Pow w) (hc:kr w) :
  Calls Tryz.prog 30 #[.int .i64 ((m:Int)+1)] w (aQ w 0 (aY m).fr):=by
 have M4:∀ (fn:Fn) (first cap:Array Value) (w:World),(Instr.makeFunc fn first cap).run Tryz.prog w= .ok (.func fn first cap) w:=fun _ _ _ _=>rfl
 have q1:decide ((m:Int)+1<1)=false:=by simp;omega
 have q2:decide ((4:Int)<(m:Int)+1)=false:=by simp;omega
 have hb0:Below w.heap.size w (w.alloc (.cells #[.int .i64 ((m:Int)+1)] 3)):=aA
 have hk0:=au.new w #[.int .i64 ((m:Int)+1)] 3
 have HAT:Hid (Calls Tryz.prog 34 #[.func (.func 73) #[] #[.pointer (some ⟨w.heap.size,0,none⟩)]] (w.alloc (.cells #[.int .i64 ((m:Int)+1)] 3)) (aQ (w.alloc (.cells #[.int .i64 ((m:Int)+1)] 3)) 0 (aY m).fr)):=Lib.hid
  (ze 73 #[.pointer (some ⟨w.heap.size,0,none⟩)] 0 (aY m).fr _ (fun W hW=>Tw w.heap.size m hm W (hk0.later hW) ((ht.later hb0).later hW) ((hc.later hb0).later hW)) (fun args W=>enters_of Tryz.func73 zk rfl args W))
 clear hk0 ht hc
 go_enter Tryz.func30,Tryz.ntmps30
 go_wp2_with fail
 refine HAT.out.mono ?_
 rintro e w1 ⟨hb1,v,rfl,hy, -⟩
 obtain ⟨rs,hR, -⟩:=id (hy rfl)
 obtain ⟨a,cap,rfl, -⟩:=hR
 have HV:=zh (hy rfl)
 clear hy HAT
 go_wp2_with fail
 go_ret2
 exact aQ.yes (Bt hb0 hb1) HV.out
theorem pz (k:Int) (w:World) (ht:pE.Pow w) (hc:kr w) :
  Calls Tryz.prog 30 #[.int .i64 k] w (aQ w (iB k) (aY (k - 1).toNat).fr):=by
 unfold iB
 by_cases h:k<1∨4<k
 ·rw [if_pos h]
  exact Uv k h _ w
 ·rw [if_neg h]
  have:=Qf (k - 1).toNat zo w ht hc
  have e:(((k - 1).toNat:Nat):Int)+1=k:=by omega
  rw [e] at this
  exact this
def bJ (f:Nat→Rat):light.aW:=⟨Fr.of (f 0),Fr.of (f 1),Fr.of (f 2)⟩
def jQ (f:Nat→Rat):List Rat:=[f 0,f 1,f 2]
def iJ (m:matrix.RM) (f:Nat→Rat) (i:Nat):Rat:=dH (m.getD i []) (jQ f)
def dM (f:Nat→Rat):Bool:=dz (f 0)&&dz (f 1)&&dz (f 2)
theorem jL.cells {w:World} {T:TypeId} {a:Option Addr} {n c:Nat} {l:List Fr} (h:jL w T (.slice a n c) l) (h0:0<l.length) :
  n=l.length∧∃ b off,a=some ⟨b,off,none⟩∧b<w.heap.size∧∀ i (h:i<l.length),w.cell? ⟨b,off+i*2,none⟩=some (.string l[i].n)∧w.cell? ⟨b,off+i*2+1,none⟩=some (.string l[i].d):=by
 obtain ⟨a',c',e, -, -, h2⟩:=h.read
 simp only [Value.slice.injEq] at e
 obtain ⟨rfl,rfl,rfl⟩:=e
 obtain ⟨b,off,rfl,k1, -⟩:=h2 0 h0
 refine ⟨rfl,b,off,rfl,k1,fun i hi=>?_⟩
 obtain ⟨b',off',e, -, k2,k3⟩:=h2 i hi
 simp only [Option.some.injEq,Addr.mk.injEq,and_true] at e
 obtain ⟨rfl,rfl⟩:=e
 exact ⟨k2,k3⟩
theorem Mx (va:Value) (m:matrix.RM) (f:Nat→Rat) (w:World) (h:bQ w va m.fr) (hm:m.ok 3) (h3:m.length=3) (hf:dM f=true) (ht:pE.Pow w) :
  Calls Tryz.prog 84 #[va,(bJ f).v] w (aU w (if dM (iJ m f) then 0 else 6) (fun v _=>v=(bJ (iJ m f)).v)):=by
 have hq:∀ q∈jQ f,dz q=true:=by
  unfold dM at hf
  simp only [Bool.and_eq_true] at hf
  intro q hq
  simp only [jQ,List.mem_cons,List.not_mem_nil,or_false] at hq
  rcases hq with rfl|rfl|rfl
  ·exact hf.1.1
  ·exact hf.1.2
  ·exact hf.2
 have hap:=fun vl (T:TypeId) w' (hb:Below w.heap.size w w') (hl:jL w' T vl ((jQ f).map Fr.of))=>matrix.BJ va vl m (jQ f) T w' (h.later hb) hl hm hq (ht.later hb)
 have hml:(m.map fun r=>dH r (jQ f))=jQ (iJ m f):=by
  match m,h3 with
  | [r1,r2,r3],_=>rfl
 rw [hml] at hap
 have hall:(jQ (iJ m f)).all dz=dM (iJ m f):=by
  simp [jQ,dM,Bool.and_assoc]
 obtain ⟨g,Eg⟩:∃ g:Nat→Rat,Hid (iJ m f=g):=⟨_,zh rfl⟩
 rw [Eg.out] at hap hall ⊢
 obtain ⟨er,vU⟩:∃ y:Int,Hid ((if dM g then 0 else 6)=y):=⟨_,zh rfl⟩
 rw [vU.out]
 have Qd:=zh hap
 have Ca:=zh hall
 obtain ⟨rs,hR, -⟩:=id h
 obtain ⟨a,cap,rfl, -⟩:=hR
 have hl3:m.fr.length=3:=by unfold matrix.RM.fr;rw [List.length_map,h3]
 obtain ⟨n0,hn0⟩:∃ n0,rs.length=n0:=⟨_,rfl⟩
 rw [hn0] at Qd ⊢
 have HL3:Hid (((jQ f).map Fr.of)=[Fr.of (f 0),Fr.of (f 1),Fr.of (f 2)]):=zh rfl
 obtain ⟨⟨a1,a2⟩,E1⟩:∃ x:Fr,Hid (Fr.of (f 0)=x):=⟨_,zh rfl⟩
 obtain ⟨⟨a3,a4⟩,E2⟩:∃ x:Fr,Hid (Fr.of (f 1)=x):=⟨_,zh rfl⟩
 obtain ⟨⟨a5,a6⟩,E3⟩:∃ x:Fr,Hid (Fr.of (f 2)=x):=⟨_,zh rfl⟩
 have ev:(bJ f).v= .agg #[.string a1,.string a2,.string a3,.string a4,.string a5,.string a6]:=by
  unfold bJ
  rw [E1.out,E2.out,E3.out]
  rfl
 rw [E1.out,E2.out,E3.out] at HL3
 rw [HL3.out] at Qd
 rw [ev]
 clear h hm h3 hf ht hq hap hml hall ev hl3 hn0 E1 E2 E3
 go_enter Tryz.func84,Tryz.ntmps84
 go_wp2_with fail
 obtain ⟨w0,kE⟩:∃ y,((w.alloc (.cells #[.string a1,.string a2,.string a3,.string a4,.string a5,.string a6] 38)).alloc (.cells #[.string ⟨#[]⟩,.string ⟨#[]⟩,.string ⟨#[]⟩,.string ⟨#[]⟩,.string ⟨#[]⟩,.string ⟨#[]⟩] 137)).alloc (.cells #[.string ⟨#[]⟩,.string ⟨#[]⟩,.string ⟨#[]⟩,.string ⟨#[]⟩,.string ⟨#[]⟩,.string ⟨#[]⟩] 137)=y:=⟨_,rfl⟩
 have hb0:Below w.heap.size w w0:=by rw [← kE];exact aA
 have hx0:au w0 w.heap.size #[.string a1,.string a2,.string a3,.string a4,.string a5,.string a6] 38:=by rw [← kE];exact aJ
 have hx1:au w0 (w.heap.size+1) #[.string ⟨#[]⟩,.string ⟨#[]⟩,.string ⟨#[]⟩,.string ⟨#[]⟩,.string ⟨#[]⟩,.string ⟨#[]⟩] 137:=by rw [← kE];exact aJ
 have hx2:au w0 (w.heap.size+1+1) #[.string ⟨#[]⟩,.string ⟨#[]⟩,.string ⟨#[]⟩,.string ⟨#[]⟩,.string ⟨#[]⟩,.string ⟨#[]⟩] 137:=by rw [← kE];exact aJ
 rw [kE]
 clear kE
 refine aC [(.pure,0),(.pure,1),(.pure,2),(.pure,3),(.ext,4),(.pure,5),(.pure,6),(.ext,7),(.fin,8)] zk zk zR zP ?_
 repeat (first|(refine ah rfl rfl fun J h=>?_;go_simp;refine h _ ?_;clear h J)|(refine aB rfl rfl rfl rfl fun J h=>?_;go_simp;refine h _ ?_;clear h J;try go_simp))
 refine aD rfl rfl (fun w1 hb1 J hJ=>?_);go_simp
 have h01:Below w0.heap.size w0 w1:=aA
 refine (Qd.out _ 38 w1 (Bt hb0 h01) (light.aW.C8 (t:=⟨⟨a1,a2⟩,⟨a3,a4⟩,⟨a5,a6⟩⟩) (hx0.later h01))).mono ?_
 rintro e w2 (⟨hy,vo,rfl,hb2,hfr⟩|⟨hy,rfl,hb2⟩)
 ·rw [Ca.out] at hy
  refine hJ _ _ hb2 ?_
  clear hJ J
  obtain ⟨⟨s1,s2⟩,E1⟩:∃ x:Fr,Hid (Fr.of (g 0)=x):=⟨_,zh rfl⟩
  obtain ⟨⟨s3,s4⟩,E2⟩:∃ x:Fr,Hid (Fr.of (g 1)=x):=⟨_,zh rfl⟩
  obtain ⟨⟨s5,s6⟩,E3⟩:∃ x:Fr,Hid (Fr.of (g 2)=x):=⟨_,zh rfl⟩
  have hl:(jQ g).map Fr.of=[⟨s1,s2⟩,⟨s3,s4⟩,⟨s5,s6⟩]:=by
   show [Fr.of (g 0),Fr.of (g 1),Fr.of (g 2)]=_
   rw [E1.out,E2.out,E3.out]
  have hv:(bJ g).v= .agg #[.string s1,.string s2,.string s3,.string s4,.string s5,.string s6]:=by
   unfold bJ
   rw [E1.out,E2.out,E3.out]
   rfl
  rw [hl] at hfr
  have HVV:=zh hv
  have Xg:Hid (er=0):=zh (by rw [← vU.out,hy];rfl)
  obtain ⟨ao,co,rfl, -⟩:=hfr.read
  obtain ⟨-, b,off,rfl,lb,hcell⟩:=jL.cells hfr zi
  have hc0:=hcell 0 zi
  have hc1:=hcell 1 zi
  have hc2:=hcell 2 zi
  simp only [List.getElem_cons_zero,List.getElem_cons_succ,Nat.zero_mul,Nat.add_zero] at hc0 hc1 hc2
  clear hl hv hfr hcell hy
  repeat (first|(refine ah rfl rfl fun J h=>?_;go_simp;refine h _ ?_;clear h J)|(refine aB rfl rfl rfl rfl fun J h=>?_;go_simp;refine h _ ?_;clear h J;try go_simp))
  refine aD rfl rfl (fun w3 hb3 J hJ=>?_);go_simp
  refine (Ih _ _ _ w3).mono ?_
  rintro e w4 ⟨rfl,rfl⟩
  refine hJ _ _ (Below.refl _ _) ?_
  clear hJ J
  refine aI [_] rfl (fun w5 hb5=>?_)
  have IC:Below w2.heap.size w2 w5:=aA
  have zy:Below w0.heap.size w0 w5:=Bt (Bt h01 hb2) IC
  have k1:=(IC.cell (p:=⟨b,off,none⟩) lb).trans hc0.1
  have k2:=(IC.cell (p:=⟨b,off+1,none⟩) lb).trans hc0.2
  have k3:=(IC.cell (p:=⟨b,off+1*2,none⟩) lb).trans hc1.1
  have k4:=(IC.cell (p:=⟨b,off+1*2+1,none⟩) lb).trans hc1.2
  have k5:=(IC.cell (p:=⟨b,off+2*2,none⟩) lb).trans hc2.1
  have k6:=(IC.cell (p:=⟨b,off+2*2+1,none⟩) lb).trans hc2.2
  have hy2:=hx2.later zy
  have hcp:∀ ty,(Builtin.copy_ #[56,56] ty #[.slice (some ⟨w.heap.size+1+1,0,none⟩) 3 3,.slice (some ⟨b,off,none⟩) 3 co]).run Tryz.prog w5= .ok (goInt 3) (w5.setRow (w.heap.size+1+1) #[.string s1,.string s2,.string s3,.string s4,.string s5,.string s6]):=fun ty=>by
   obtain ⟨i0,hi,hz0,hz1,hz2⟩:=info_parts matrix.pK
   exact matrix.nZ Tryz.prog w5 56 56 ty 36 (w.heap.size+1+1) 0 3 3 2 ⟨b,off,none⟩ 3 co #[.string ⟨#[]⟩,.string ⟨#[]⟩,.string ⟨#[]⟩,.string ⟨#[]⟩,.string ⟨#[]⟩,.string ⟨#[]⟩] 137 [.string s1,.string s2,.string s3,.string s4,.string s5,.string s6] Tryz.underlying56 (by rw [hi];simp [hz1]) hy2 rfl (fun j v hv=>by
    rw [Addr.add_lit]
    match j,hv with
    | 0,hv=>cases hv;exact k1
    | 1,hv=>cases hv;exact k2
    | 2,hv=>cases hv;exact k3
    | 3,hv=>cases hv;exact k4
    | 4,hv=>cases hv;exact k5
    | 5,hv=>cases hv;exact k6) zi (by intro v hv;simp at hv;rcases hv with rfl|rfl|rfl|rfl|rfl|rfl<;>rfl)
  obtain ⟨w6,L9⟩:∃ y,w5.setRow (w.heap.size+1+1) #[.string s1,.string s2,.string s3,.string s4,.string s5,.string s6]=y:=⟨_,rfl⟩
  have hz2:au w6 (w.heap.size+1+1) #[.string s1,.string s2,.string s3,.string s4,.string s5,.string s6] 137:=by rw [← L9];exact setRow_heap _ _ _ _ _ _ hy2
  have O7:Below w.heap.size w w6:=by rw [← L9];exact below_setRow (Bt hb0 zy) zo _
  have hz1:au w6 (w.heap.size+1) #[.string ⟨#[]⟩,.string ⟨#[]⟩,.string ⟨#[]⟩,.string ⟨#[]⟩,.string ⟨#[]⟩,.string ⟨#[]⟩] 137:=by
   rw [← L9]
   have:=hx1.later zy
   unfold au at *
   rw [setRow_other _ _ _ _ zo]
   exact this
  rw [L9] at hcp
  have c2:=hz2.cell
  have c1:=hz1.cell
  have f1:=hz1.free
  have HZ2:=zh hz2
  clear k1 k2 k3 k4 k5 k6 hc0 hc1 hc2 hy2 L9 hx0 hx1 hx2 hb0 hb1 h01 hb2 hb3 hb5 IC zy hz2
  go_wp2_with fail
  refine bO rfl rfl ((((((hz1.set 0 _).set 1 _).set 2 _).set 3 _).set 4 _).set 5 _) Tryz.underlying137 rfl zk ?_
  rw [Xg.out]
  exact aU.yes aA (by rw [HVV.out];rfl)
 ·rw [Ca.out] at hy
  have WS:Hid (er=6):=zh (by rw [← vU.out,hy];rfl)
  refine hJ _ _ hb2 ?_
  clear hJ J hy
  repeat (first|(refine ah rfl rfl fun J h=>?_;go_simp;refine h _ ?_;clear h J)|(refine aB rfl rfl rfl rfl fun J h=>?_;go_simp;refine h _ ?_;clear h J;try go_simp))
  refine aD rfl rfl (fun w3 hb3 J hJ=>?_);go_simp
  refine (Du _ _ _ 6 zd w3).mono ?_
  rintro e w4 ⟨rfl,rfl⟩
  exact ⟨rfl,by rw [WS.out];exact aU.no (Bt (Bt (Bt hb0 h01) hb2) aA) zd⟩
def eY (g:Nat→Rat):Bool:=decide (g 0=0) || decide (g 1=0) || decide (g 2=0)
theorem qR {q:Rat} (h:dz q=true):fG (Fr.of q)=(gV q 0,0):=by unfold fG;rw [jc h]
theorem ko {q:Rat}:gV q 0=0↔q=0:=by
 unfold gV
 constructor
 ·intro h
  by_cases h1:q<0
  ·rw [if_pos h1] at h;cases h
  ·rw [if_neg h1] at h
   by_cases h2:0<q
   ·rw [if_pos h2] at h;cases h
   ·grind
 ·intro h
  subst h
  rfl
theorem VG (a b c d e f:ByteArray) (w:World):(Instr.index 135 (.agg #[.string a,.string b,.string c,.string d,.string e,.string f]) (.int .i64 0)).run Tryz.prog w= .ok (.agg #[.string a,.string b]) w:=by kernel_rfl
theorem VF (a b c d e f:ByteArray) (w:World):(Instr.index 135 (.agg #[.string a,.string b,.string c,.string d,.string e,.string f]) (.int .i64 1)).run Tryz.prog w= .ok (.agg #[.string c,.string d]) w:=by kernel_rfl
theorem VE (a b c d e f:ByteArray) (w:World):(Instr.index 135 (.agg #[.string a,.string b,.string c,.string d,.string e,.string f]) (.int .i64 2)).run Tryz.prog w= .ok (.agg #[.string e,.string f]) w:=by kernel_rfl
theorem LA (g:Nat→Rat) (hg:dM g=true) (w:World) :
  Calls Tryz.prog 85 #[(bJ g).v] w (fun e w'=>e= .returned (.bool (eY g))∧Below w.heap.size w w'):=by
 unfold dM at hg
 simp only [Bool.and_eq_true] at hg
 have HS:Hid (∀ k,k<3→∀ w,Calls Tryz.prog 83 #[(Fr.of (g k)).v] w (fun e w'=>e= .returned (.tuple #[.int .i64 (gV (g k) 0),.int .i64 0])∧Below w.heap.size w w')):=zh fun k hk w=>by
  have hq:dz (g k)=true:=by
   have:k=0∨k=1∨k=2:=by omega
   rcases this with rfl|rfl|rfl
   ·exact hg.1.1
   ·exact hg.1.2
   ·exact hg.2
  have:=dG.jW (Fr.of (g k)) w
  rw [qR hq] at this
  exact this
 obtain ⟨b,Eb⟩:∃ b,Hid (eY g=b):=⟨_,zh rfl⟩
 rw [Eb.out]
 obtain ⟨⟨a1,a2⟩,E1⟩:∃ x:Fr,Hid (Fr.of (g 0)=x):=⟨_,zh rfl⟩
 obtain ⟨⟨a3,a4⟩,E2⟩:∃ x:Fr,Hid (Fr.of (g 1)=x):=⟨_,zh rfl⟩
 obtain ⟨⟨a5,a6⟩,E3⟩:∃ x:Fr,Hid (Fr.of (g 2)=x):=⟨_,zh rfl⟩
 have ev:(bJ g).v= .agg #[.string a1,.string a2,.string a3,.string a4,.string a5,.string a6]:=by
  unfold bJ
  rw [E1.out,E2.out,E3.out]
  rfl
 rw [ev]
 have hi0:=VG a1 a2 a3 a4 a5 a6
 have hi1:=VF a1 a2 a3 a4 a5 a6
 have hi2:=VE a1 a2 a3 a4 a5 a6
 clear hg ev
 go_enter Tryz.func85,Tryz.ntmps85
 go_wp2_with fail
 go_loopw [6] (fun iv wr=>∃ k:Nat,iv= .int .i64 (k:Int)∧k≤3∧Hid (∀ j,j<k→g j≠0)∧Below w.heap.size w wr) (fun iv _=>3 - (intOf iv).toNat)
 case atStart=>exact ⟨0,rfl,by omega,zh (fun j h=>by omega),aA⟩
 case round =>
  obtain ⟨k,rfl,hk,HZ,hb⟩:=hrel
  rcases Nat.lt_or_ge k 3 with hlt|hge
  ·have hk3:k=0∨k=1∨k=2:=by omega
   rcases hk3 with rfl|rfl|rfl
   ·have hs:=HS.out 0 zo
    rw [E1.out] at hs
    unfold Fr.v at hs
    simp only at hs
    have Ub:=zh hs
    clear hs
    by_cases hz:g 0=0
    ·have hc:gV (g 0) 0=0:=ko.2 hz
     rw [hc] at Ub
     have hf:b=true:=by
      rw [← Eb.out]
      unfold eY
      simp [hz]
     have HB:=zh hf
     clear hf hz hc
     go_wp2_with fail
     refine (Ub.out _).mono ?_
     rintro e w2 ⟨rfl,hb2⟩
     go_wp2_with fail
     refine (mE _ _).mono ?_
     rintro e w3 ⟨rfl,rfl⟩
     go_wp2_with fail
     go_ret
     exact ⟨by rw [HB.out];rfl,Bt (bL hb _) hb2⟩
    ·have hc:¬ gV (g 0) 0=0:=fun e=>hz (ko.1 e)
     have HNZ:=zh hz
     generalize gV (g 0) 0=s at *
     have hc2:(s == 0)=false:=by simp [hc]
     clear hz hc
     go_wp2_with fail
     refine (Ub.out _).mono ?_
     rintro e w2 ⟨rfl,hb2⟩
     go_wp2_with fail
     refine (mE _ _).mono ?_
     rintro e w3 ⟨rfl,rfl⟩
     go_wp2_with fail
     go_roundw
     case rel =>
      refine ⟨0+1,by go_num,by omega,zh fun j hj=>?_,Bt (bL hb _) hb2⟩
      rcases Nat.lt_or_ge j 0 with h|h
      ·exact HZ.out j h
      ·obtain rfl:j=0:=by omega
       exact HNZ.out
     case measure=>simp [intOf]
   ·have hs:=HS.out 1 zo
    rw [E2.out] at hs
    unfold Fr.v at hs
    simp only at hs
    have Ub:=zh hs
    clear hs
    by_cases hz:g 1=0
    ·have hc:gV (g 1) 0=0:=ko.2 hz
     rw [hc] at Ub
     have hf:b=true:=by
      rw [← Eb.out]
      unfold eY
      simp [hz]
     have HB:=zh hf
     clear hf hz hc
     go_wp2_with fail
     refine (Ub.out _).mono ?_
     rintro e w2 ⟨rfl,hb2⟩
     go_wp2_with fail
     refine (mE _ _).mono ?_
     rintro e w3 ⟨rfl,rfl⟩
     go_wp2_with fail
     go_ret
     exact ⟨by rw [HB.out];rfl,Bt (bL hb _) hb2⟩
    ·have hc:¬ gV (g 1) 0=0:=fun e=>hz (ko.1 e)
     have HNZ:=zh hz
     generalize gV (g 1) 0=s at *
     have hc2:(s == 0)=false:=by simp [hc]
     clear hz hc
     go_wp2_with fail
     refine (Ub.out _).mono ?_
     rintro e w2 ⟨rfl,hb2⟩
     go_wp2_with fail
     refine (mE _ _).mono ?_
     rintro e w3 ⟨rfl,rfl⟩
     go_wp2_with fail
     go_roundw
     case rel =>
      refine ⟨1+1,by go_num,by omega,zh fun j hj=>?_,Bt (bL hb _) hb2⟩
      rcases Nat.lt_or_ge j 1 with h|h
      ·exact HZ.out j h
      ·obtain rfl:j=1:=by omega
       exact HNZ.out
     case measure=>simp [intOf]
   ·have hs:=HS.out 2 zo
    rw [E3.out] at hs
    unfold Fr.v at hs
    simp only at hs
    have Ub:=zh hs
    clear hs
    by_cases hz:g 2=0
    ·have hc:gV (g 2) 0=0:=ko.2 hz
     rw [hc] at Ub
     have hf:b=true:=by
      rw [← Eb.out]
      unfold eY
      simp [hz]
     have HB:=zh hf
     clear hf hz hc
     go_wp2_with fail
     refine (Ub.out _).mono ?_
     rintro e w2 ⟨rfl,hb2⟩
     go_wp2_with fail
     refine (mE _ _).mono ?_
     rintro e w3 ⟨rfl,rfl⟩
     go_wp2_with fail
     go_ret
     exact ⟨by rw [HB.out];rfl,Bt (bL hb _) hb2⟩
    ·have hc:¬ gV (g 2) 0=0:=fun e=>hz (ko.1 e)
     have HNZ:=zh hz
     generalize gV (g 2) 0=s at *
     have hc2:(s == 0)=false:=by simp [hc]
     clear hz hc
     go_wp2_with fail
     refine (Ub.out _).mono ?_
     rintro e w2 ⟨rfl,hb2⟩
     go_wp2_with fail
     refine (mE _ _).mono ?_
     rintro e w3 ⟨rfl,rfl⟩
     go_wp2_with fail
     go_roundw
     case rel =>
      refine ⟨2+1,by go_num,by omega,zh fun j hj=>?_,Bt (bL hb _) hb2⟩
      rcases Nat.lt_or_ge j 2 with h|h
      ·exact HZ.out j h
      ·obtain rfl:j=2:=by omega
       exact HNZ.out
     case measure=>simp [intOf]
  ·have hk3:k=3:=by omega
   subst hk3
   have hf:b=false:=by
    rw [← Eb.out]
    unfold eY
    simp [HZ.out 0 zo,HZ.out 1 zo,HZ.out 2 zo]
   have HB:=zh hf
   clear hf
   go_wp2_with fail
   go_ret
   exact ⟨by rw [HB.out];rfl,hb⟩
def jR (d p q:Rat):Rat:=d*(q / p)+(1 - d)
def gJ (d p q:Rat):Bool:=dz (q / p)&&dz (d*(q / p))&&dz (1 - d)&&dz (jR d p q)
theorem vZ (q:Rat):(dz q=true∧∃ s t,Fr.of q=⟨s,t⟩∧Fr.res (dx.wr q)= .tuple #[.agg #[.string s,.string t],.int .i64 0])∨(dz q=false∧Fr.res (dx.wr q)= .tuple #[.agg #[.string ⟨#[]⟩,.string ⟨#[]⟩],.int .i64 6]):=by
 cases h:dz q with
 | false=>exact .inr ⟨rfl,rZ h⟩
 | true=>exact .inl ⟨rfl,(Fr.of q).n,(Fr.of q).d,rfl,by unfold dx.wr;rw [if_pos h];rfl⟩
theorem Nb {p q:Rat} (hp:dz p=true) (hq:dz q=true) (h0:q≠0):zA (Fr.of p) (Fr.of q)=dx.wr (p / q):=by
 unfold zA
 rw [iQ (jc hp) (jc hq),if_neg h0]
theorem MQ {p q:Rat} (hp:dz p=true) (hq:dz q=true):Ik (Fr.of p) (Fr.of q)=dx.wr (p*q):=iQ (jc hp) (jc hq)
theorem Nr {p q:Rat} (hp:dz p=true) (hq:dz q=true):Jv (Fr.of p) (Fr.of q)=dx.wr (p+q):=iQ (jc hp) (jc hq)
theorem Mk {p q:Rat} (hp:dz p=true) (hq:dz q=true):EY (Fr.of p) (Fr.of q)=dx.wr (p - q):=iQ (jc hp) (jc hq)
theorem Wm (bs bf bd bo k:Nat) (g2 g1:Nat→Rat) (d:Rat) (w:World) (hs:au w bs (bJ g2).cells 137) (hf:au w bf (bJ g1).cells 137)
  (hd:au w bd #[.string (Fr.of d).n,.string (Fr.of d).d] 36) (ho:au w bo #[.string (Fr.of 1).n,.string (Fr.of 1).d] 36)
  (hk:k<3) (h2:dz (g2 k)=true) (h1:dz (g1 k)=true) (h0:g1 k≠0) (hdk:dz d=true) (ht:pE.Pow w) :
  Calls Tryz.prog 86 #[.int .i64 (k:Int),.pointer (some ⟨bs,0,none⟩),.pointer (some ⟨bf,0,none⟩),.pointer (some ⟨bd,0,none⟩),.pointer (some ⟨bo,0,none⟩)] w
   (aU w (if gJ d (g1 k) (g2 k) then 0 else 6) (fun v _=>v=(Fr.of (jR d (g1 k) (g2 k))).v)):=by
 have hk3:k=0∨k=1∨k=2:=by omega
 have c2a:w.cell? ⟨bs,k*2,none⟩=some (.string (Fr.of (g2 k)).n):=by rw [hs.cell];rcases hk3 with rfl|rfl|rfl<;>rfl
 have c2b:w.cell? ⟨bs,k*2+1,none⟩=some (.string (Fr.of (g2 k)).d):=by rw [hs.cell];rcases hk3 with rfl|rfl|rfl<;>rfl
 have c1a:w.cell? ⟨bf,k*2,none⟩=some (.string (Fr.of (g1 k)).n):=by rw [hf.cell];rcases hk3 with rfl|rfl|rfl<;>rfl
 have c1b:w.cell? ⟨bf,k*2+1,none⟩=some (.string (Fr.of (g1 k)).d):=by rw [hf.cell];rcases hk3 with rfl|rfl|rfl<;>rfl
 have hdiv:=fun w' hb=>dG.Cc (Fr.of (g2 k)) (Fr.of (g1 k)) w' (ht.later hb)
 rw [Nb h2 h1 h0] at hdiv
 have h11:dz 1=true:=by decide+kernel
 have hmul:=fun (x:Rat) (hx:dz x=true) w' hb=>(MQ hdk hx) ▸ dG.tQ (Fr.of d) (Fr.of x) w' (ht.later hb)
 have hsub:=fun w' hb=>dG.BP (Fr.of 1) (Fr.of d) w' (ht.later hb)
 rw [Mk h11 hdk] at hsub
 have hadd:=fun (x y:Rat) (hx:dz x=true) (hy:dz y=true) w' hb=>(Nr hx hy) ▸ dG.Cg (Fr.of x) (Fr.of y) w' (ht.later hb)
 have hg:jR d (g1 k) (g2 k)=d*(g2 k / g1 k)+(1 - d):=rfl
 have hgo:gJ d (g1 k) (g2 k)=(dz (g2 k / g1 k)&&dz (d*(g2 k / g1 k))&&dz (1 - d)&&dz (d*(g2 k / g1 k)+(1 - d))):=rfl
 rw [hg,hgo]
 generalize g2 k / g1 k=x1 at *
 obtain ⟨⟨s1,s2⟩,E1⟩:∃ x:Fr,Hid (Fr.of (g2 k)=x):=⟨_,zh rfl⟩
 obtain ⟨⟨t1,t2⟩,E2⟩:∃ x:Fr,Hid (Fr.of (g1 k)=x):=⟨_,zh rfl⟩
 obtain ⟨⟨d1,d2⟩,E3⟩:∃ x:Fr,Hid (Fr.of d=x):=⟨_,zh rfl⟩
 obtain ⟨⟨o1,o2⟩,E4⟩:∃ x:Fr,Hid (Fr.of 1=x):=⟨_,zh rfl⟩
 rw [E1.out] at c2a c2b hdiv
 rw [E2.out] at c1a c1b hdiv
 rw [E3.out] at hd hmul hsub
 rw [E4.out] at ho hsub
 have l2:=hs.lt
 have l1:=hf.lt
 have cd:=hd.cell
 have ld:=hd.lt
 have co:=ho.cell
 have lo:=ho.lt
 have hkk:(k:Int)<3:=by omega
 have aI5:=zh hdiv
 have ay1:=zh hmul
 have aI2:=zh hsub
 have ay5:=zh hadd
 obtain ⟨er,vU⟩:∃ y:Int,Hid ((if (dz x1&&dz (d*x1)&&dz (1 - d)&&dz (d*x1+(1 - d))) then 0 else 6)=y):=⟨_,zh rfl⟩
 have HDK:=zh hdk
 rw [vU.out]
 clear hs hf hk3 hdiv hmul hsub hadd hg hgo h11 h0 h1 h2 hdk ht
 go_enter Tryz.func86,Tryz.ntmps86
 go_wp2_with fail
 refine aC [(.pure,0),(.pure,1),(.pure,2),(.read,3),(.pure,4),(.pure,5),(.pure,6),(.read,7),(.ext,8),(.pure,9),(.pure,10),(.ext,11),(.alloc #[.string ⟨#[]⟩,.string ⟨#[]⟩] 36,12),(.fin,13)] zk zk zR zP ?_
 repeat (first|(refine ah rfl rfl fun J h=>?_;go_simp;refine h _ ?_;clear h J)|(refine aB rfl rfl rfl rfl fun J h=>?_;go_simp;refine h _ ?_;clear h J;try go_simp))
 have hA0:Below w.heap.size w (w.alloc (.cells #[.string ⟨#[]⟩,.string ⟨#[]⟩] 36)):=aA
 have hr0:=au.new w #[.string ⟨#[]⟩,.string ⟨#[]⟩] 36
 refine aD rfl rfl (fun w1 hb1 J hJ=>?_);go_simp
 have hr1:=hr0.drew.later hb1
 have h1:Below w.heap.size w w1:=aA
 refine (aI5.out w1 h1).mono ?_
 rintro e w2 ⟨rfl,hb2⟩
 refine hJ _ _ hb2 ?_
 clear hJ J
 have h2:Below w.heap.size w w2:=Bt h1 hb2
 replace hr1:=hr1.later hb2
 rcases vZ x1 with ⟨hx1,u1,u2,eu,hres⟩|⟨hx1,hres⟩
 rotate_left
 ·have Gq:Hid (er=6):=zh (by rw [← vU.out,hx1];rfl)
  rw [hres]
  clear hx1
  repeat (first|(refine ah rfl rfl fun J h=>?_;go_simp;refine h _ ?_;clear h J)|(refine aB rfl rfl rfl rfl fun J h=>?_;go_simp;refine h _ ?_;clear h J;try go_simp))
  refine aD rfl rfl (fun w3 hb3 J hJ=>?_);go_simp
  refine (uq Fr.no 6 zd w3).mono ?_
  rintro e w4 ⟨rfl,hb4⟩
  exact ⟨rfl,by rw [Gq.out];exact aU.no (Bt (Bt h2 hb3) hb4) zd⟩
 have HX1:=zh hx1
 have hmul:=ay1.out x1 hx1
 rw [eu] at hmul
 have HMU:=zh hmul
 rw [hres]
 clear eu hx1 hres hmul ay1
 repeat (first|(refine ah rfl rfl fun J h=>?_;go_simp;refine h _ ?_;clear h J)|(refine aB rfl rfl rfl rfl fun J h=>?_;go_simp;refine h _ ?_;clear h J;try go_simp))
 refine aD rfl rfl (fun w3 hb3 J hJ=>?_);go_simp
 refine (qo ⟨u1,u2⟩ w3).mono ?_
 unfold Fr.v
 rintro e w4 ⟨rfl,hb4⟩
 refine hJ _ _ hb4 ?_
 clear hJ J
 have h24:Below w2.heap.size w2 w4:=Bt hb3 hb4
 have h4:Below w.heap.size w w4:=Bt h2 h24
 replace hr1:=hr1.later h24
 repeat (first|(refine ah rfl rfl fun J h=>?_;go_simp;refine h _ ?_;clear h J)|(refine aB rfl rfl rfl rfl fun J h=>?_;go_simp;refine h _ ?_;clear h J;try go_simp))
 refine aR rfl (fun b12 w5 UG SN aD6 aK4 wO=>?_);go_simp;replace wO:au _ _ _ _:=wO;have aK3:w.heap.size≤b12:=(by first|omega|exact Nat.le_trans (Below.size (B:=w.heap.size) aA) SN)
 refine aI [_] rfl (fun w6 hb6=>?_)
 replace wO:=au.later (wO) hb6;replace ae3:=wO.cell;replace ad9:=wO.free;replace Zh:=wO.lt
 have h46:Below w4.heap.size w4 w6:=aA
 have h6:Below w.heap.size w w6:=Bt h4 h46
 replace hr1:=hr1.later h46
 have hNe:w.heap.size+1≤b12:=SN
 have hne:w.heap.size≠b12:=by omega
 have hd6:=hd.later h6
 have ho6:=ho.later h6
 have cd6:=hd6.cell
 have co6:=ho6.cell
 have ned:bd≠b12:=by omega
 have neo:bo≠b12:=by omega
 clear hb1 hb2 hb3 hb4 hb6 h1 h2 h24 h46 h4 c2a c2b c1a c1b SN
 go_wp2_with fail
 obtain ⟨w7,E7⟩:∃ y,(w6.setCell ⟨b12,0,none⟩ (.string u1)).setCell ⟨b12,1,none⟩ (.string u2)=y:=⟨_,rfl⟩
 have h7:Below w.heap.size w w7:=by
  rw [← E7]
  have:w.heap.size≤b12:=by omega
  exact (h6.setCell this _).setCell this _
 have hp7:au w7 b12 #[.string u1,.string u2] 36:=by rw [← E7];exact (wO.set 0 _).set 1 _
 have hr7:au w7 w.heap.size #[.string ⟨#[]⟩,.string ⟨#[]⟩] 36:=by rw [← E7];exact (hr1.setOther _ hne).setOther _ hne
 have hd7:au w7 bd #[.string d1,.string d2] 36:=by rw [← E7];exact (hd6.setOther _ ned).setOther _ ned
 have ho7:au w7 bo #[.string o1,.string o2] 36:=by rw [← E7];exact (ho6.setOther _ neo).setOther _ neo
 rw [E7]
 clear E7 hd6 ho6 cd6 co6 wO ae3 ad9 Zh hr1 h6 cd co
 refine (HMU.out w7 h7).mono ?_
 rintro e w8 ⟨rfl,kD⟩
 have h8:Below w.heap.size w w8:=Bt h7 kD
 rcases vZ (d*x1) with ⟨hx2,v1,v2,eu,hres⟩|⟨hx2,hres⟩
 rotate_left
 ·have Gq:Hid (er=6):=zh (by rw [← vU.out,hx2];simp)
  rw [hres]
  clear hx2
  go_wp2_with fail
  refine (uq Fr.no 6 zd _).mono ?_
  rintro e w9 ⟨rfl,gX⟩
  exact ⟨rfl,by rw [Gq.out];exact aU.no (Bt h8 gX) zd⟩
 have hadd:=fun y hy=>ay5.out (d*x1) y hx2 hy
 rw [eu] at hadd
 have HAD:=zh hadd
 have Ua:=zh hx2
 rw [hres]
 clear eu hx2 hres hadd ay5
 go_wp2_with fail
 refine (qo ⟨v1,v2⟩ _).mono ?_
 unfold Fr.v
 rintro e w9 ⟨rfl,gX⟩
 have h79:Below w7.heap.size w7 w9:=Bt kD gX
 have hp9:=hp7.later h79
 have cp9:=hp9.cell
 have fp9:=hp9.free
 have hr9:=hr7.later h79
 have hd9:=hd7.later h79
 have ho9:=ho7.later h79
 have h9:Below w.heap.size w w9:=Bt h7 h79
 have hge:w.heap.size≤b12:=by omega
 clear hp7 hr7 hd7 ho7 h79 kD gX h8 h7
 go_wp2_with fail
 obtain ⟨wa,Ea⟩:∃ y,(w9.setCell ⟨b12,0,none⟩ (.string v1)).setCell ⟨b12,1,none⟩ (.string v2)=y:=⟨_,rfl⟩
 have ha:Below w.heap.size w wa:=by
  rw [← Ea]
  exact (h9.setCell hge _).setCell hge _
 have hpa:au wa b12 #[.string v1,.string v2] 36:=by rw [← Ea];exact (hp9.set 0 _).set 1 _
 have hra:au wa w.heap.size #[.string ⟨#[]⟩,.string ⟨#[]⟩] 36:=by rw [← Ea];exact (hr9.setOther _ hne).setOther _ hne
 have hda:au wa bd #[.string d1,.string d2] 36:=by rw [← Ea];exact (hd9.setOther _ ned).setOther _ ned
 have hoa:au wa bo #[.string o1,.string o2] 36:=by rw [← Ea];exact (ho9.setOther _ neo).setOther _ neo
 rw [Ea]
 have cpa:=hpa.cell
 have lpa:=hpa.lt
 have cda:=hda.cell
 have lda:=hda.lt
 have coa:=hoa.cell
 have loa:=hoa.lt
 clear Ea hp9 cp9 fp9 hr9 hd9 ho9 h9
 refine aC [(.read,0),(.read,1),(.read,2),(.ext,3),(.pure,4),(.pure,5),(.ext,6),(.ext,7),(.pure,8),(.pure,9),(.ext,10),(.fin,11)] zk zk zR zP ?_
 repeat (first|(refine ah rfl rfl fun J h=>?_;go_simp;refine h _ ?_;clear h J)|(refine aB rfl rfl rfl rfl fun J h=>?_;go_simp;refine h _ ?_;clear h J;try go_simp))
 refine aD rfl rfl (fun w1 hb1 J hJ=>?_);go_simp
 have Bc:=hra.drew.later hb1
 have h1:Below w.heap.size w w1:=aA
 refine (aI2.out w1 h1).mono ?_
 rintro e w2 ⟨rfl,hb2⟩
 refine hJ _ _ hb2 ?_
 clear hJ J
 have h2:Below w.heap.size w w2:=Bt h1 hb2
 replace Bc:=Bc.later hb2
 rcases vZ (1 - d) with ⟨hx3,p1,p2,eu,hres⟩|⟨hx3,hres⟩
 rotate_left
 ·have Gq:Hid (er=6):=zh (by rw [← vU.out,hx3];simp)
  rw [hres]
  clear hx3
  repeat (first|(refine ah rfl rfl fun J h=>?_;go_simp;refine h _ ?_;clear h J)|(refine aB rfl rfl rfl rfl fun J h=>?_;go_simp;refine h _ ?_;clear h J;try go_simp))
  refine aD rfl rfl (fun w3 hb3 J hJ=>?_);go_simp
  refine (uq Fr.no 6 zd w3).mono ?_
  rintro e w4 ⟨rfl,hb4⟩
  exact ⟨rfl,by rw [Gq.out];exact aU.no (Bt (Bt h2 hb3) hb4) zd⟩
 have hadd:=HAD.out (1 - d) hx3
 rw [eu] at hadd
 have aI7:=zh hadd
 have LU:=zh hx3
 rw [hres]
 clear eu hx3 hres hadd HAD
 repeat (first|(refine ah rfl rfl fun J h=>?_;go_simp;refine h _ ?_;clear h J)|(refine aB rfl rfl rfl rfl fun J h=>?_;go_simp;refine h _ ?_;clear h J;try go_simp))
 refine aD rfl rfl (fun w3 hb3 J hJ=>?_);go_simp
 refine (qo ⟨p1,p2⟩ w3).mono ?_
 unfold Fr.v
 rintro e w4 ⟨rfl,hb4⟩
 refine hJ _ _ hb4 ?_
 clear hJ J
 have h4:Below w.heap.size w w4:=Bt h2 (Bt hb3 hb4)
 replace Bc:=Bc.later (Bt hb3 hb4)
 repeat (first|(refine ah rfl rfl fun J h=>?_;go_simp;refine h _ ?_;clear h J)|(refine aB rfl rfl rfl rfl fun J h=>?_;go_simp;refine h _ ?_;clear h J;try go_simp))
 refine aD rfl rfl (fun w5 hb5 J hJ=>?_);go_simp
 have h5:Below w.heap.size w w5:=Bt h4 hb5
 refine (aI7.out w5 h5).mono ?_
 rintro e w6' ⟨rfl,hb6⟩
 refine hJ _ _ hb6 ?_
 clear hJ J
 have h6:Below w.heap.size w w6':=Bt h5 hb6
 replace Bc:=Bc.later (Bt hb5 hb6)
 rcases vZ (d*x1+(1 - d)) with ⟨hx4,q1,q2,eu,hres⟩|⟨hx4,hres⟩
 rotate_left
 ·have Gq:Hid (er=6):=zh (by rw [← vU.out,hx4];simp)
  rw [hres]
  clear hx4
  repeat (first|(refine ah rfl rfl fun J h=>?_;go_simp;refine h _ ?_;clear h J)|(refine aB rfl rfl rfl rfl fun J h=>?_;go_simp;refine h _ ?_;clear h J;try go_simp))
  refine aD rfl rfl (fun w3 hb3 J hJ=>?_);go_simp
  refine (uq Fr.no 6 zd w3).mono ?_
  rintro e w4 ⟨rfl,hb4⟩
  exact ⟨rfl,by rw [Gq.out];exact aU.no (Bt (Bt h6 hb3) hb4) zd⟩
 have Xg:Hid (er=0):=zh (by rw [← vU.out,HX1.out,Ua.out,LU.out,hx4];rfl)
 have Xf:=zh eu
 rw [hres]
 clear eu hx4 hres
 repeat (first|(refine ah rfl rfl fun J h=>?_;go_simp;refine h _ ?_;clear h J)|(refine aB rfl rfl rfl rfl fun J h=>?_;go_simp;refine h _ ?_;clear h J;try go_simp))
 refine aD rfl rfl (fun w7' dQ J hJ=>?_);go_simp
 refine (qo ⟨q1,q2⟩ w7').mono ?_
 unfold Fr.v
 rintro e w8' ⟨rfl,kD⟩
 refine hJ _ _ kD ?_
 clear hJ J
 repeat (first|(refine ah rfl rfl fun J h=>?_;go_simp;refine h _ ?_;clear h J)|(refine aB rfl rfl rfl rfl fun J h=>?_;go_simp;refine h _ ?_;clear h J;try go_simp))
 refine aI [_] rfl (fun wz gX=>?_)
 have h69:Below w6'.heap.size w6' wz:=aA
 replace Bc:=Bc.later h69
 have cra:=Bc.cell
 have fra:=Bc.free
 have h9:Below w.heap.size w wz:=Bt h6 h69
 clear hb1 hb2 hb3 hb4 hb5 hb6 dQ kD gX h1 h2 h4 h5 h6 h69
 go_wp2_with fail
 refine bO rfl rfl ((Bc.set 0 _).set 1 _) Tryz.underlying36 rfl zk ?_
 rw [Xg.out]
 exact aU.yes ((h9.setCell (Nat.le_refl _) _).setCell (Nat.le_refl _) _) (by rw [Xf.out];rfl)
def qF (a:Fr):Rat:=(rd a).getD 0
def qT (t:light.aW) (i:Nat):Rat:=qF (t.get i)
theorem yP {a:Fr} (h:(rd a).isSome=true):a=Fr.of (qF a)∧dz (qF a)=true:=by
 cases hr:rd a with
 | none=>rw [hr] at h;cases h
 | some q =>
  have:=jI hr
  unfold qF
  rw [hr]
  exact this
theorem QY {t:light.aW} (h:dK t.list=0):t=bJ (qT t)∧dM (qT t)=true:=by
 unfold dK at h
 split at h
 ·rename_i hh
  simp only [light.aW.list,List.all_cons,List.all_nil,Bool.and_true,Bool.and_eq_true] at hh
  obtain ⟨h1,h2,h3⟩:=hh
  obtain ⟨e1,k1⟩:=yP h1
  obtain ⟨e2,k2⟩:=yP h2
  obtain ⟨e3,k3⟩:=yP h3
  obtain ⟨x,y,z⟩:=t
  refine ⟨?_,?_⟩
  ·show (⟨x,y,z⟩:light.aW)=⟨Fr.of (qF x),Fr.of (qF y),Fr.of (qF z)⟩
   rw [← e1,← e2,← e3]
  ·show (dz (qF x)&&dz (qF y)&&dz (qF z))=true
   rw [k1,k2,k3]
   rfl
 ·cases h
theorem G7 {t:light.aW} (h:light.gF t=0):dK t.list=0:=by
 have h1:light.jC t=0:=by
  unfold light.gF at h
  by_cases hc:light.jC t=0
  ·exact hc
  ·simp [hc] at h
 unfold light.jC at h1
 by_cases hc:dK t.list=0
 ·exact hc
 ·rw [if_neg hc] at h1;cases h1
theorem tH (m:Nat) (hm:m<4):(aY m).ok 3:=by
 refine ⟨by show 1≤3;omega,by show 3≤4;omega,by omega,by omega,fun r hr=>?_⟩
 obtain ⟨i,hi,rfl⟩:=List.mem_map.1 hr
 refine ⟨by simp,fun q hq=>?_⟩
 obtain ⟨j,hj,rfl⟩:=List.mem_map.1 hq
 exact I9 m hm i (List.mem_range.1 hi) j (List.mem_range.1 hj)
def fH (k:Int) (t:light.aW):Nat→Rat:=iJ (aY (k - 1).toNat) (qT t)
def iN (k:Int) (a b:light.aW) (d:Fr) (i:Nat):Rat:=jR (qF d) (fH k a i) (fH k b i)
def mY (k:Int) (a b:light.aW) (d:Fr):Int :=
 if iB k≠0 then iB k else if light.gF a≠0 then light.gF a else if light.gF b≠0 then light.gF b else if za d≠0 then za d
 else if gV (qF d) 0<0∨0<gV (qF d) 1 then 2 else 0
def gB (k:Int) (a b:light.aW) (d:Fr):Int :=
 if mY k a b d≠0 then mY k a b d
 else if dM (fH k a)=false then 6 else if dM (fH k b)=false then 6 else if eY (fH k a) then 7
 else if gJ (qF d) (fH k a 0) (fH k b 0)&&gJ (qF d) (fH k a 1) (fH k b 1)&&gJ (qF d) (fH k a 2) (fH k b 2) then 0 else 6
theorem IG (k:Int) (a b:light.aW) (d:Fr) (w:World) (ht:pE.Pow w) (hc:kr w) :
  Calls Tryz.prog 36 #[.int .i64 k,a.v,b.v,d.v] w (aU w (gB k a b d) (fun v _=>v=(bJ (iN k a b d)).v)):=by
 have UQ:=zh (fun w' hb=>pz k w' (ht.later hb) (hc.later hb))
 have Yj:=zh (fun w'=>light.kS a w')
 have Uf:=zh (fun w'=>light.kS b w')
 have rO:=zh (fun w'=>dG.qA d w')
 have P6:=zh (fun w' hb=>dG.tO 1 1 zo zo zo zo w' (ht.later hb))
 have h11:Fr.res (yR 1 1)= .tuple #[(Fr.of 1).v,.int .i64 0]:=by
  unfold yR
  rw [if_neg zd]
  have e:((1:Int):Rat) / ((1:Int):Rat)=1:=by decide+kernel
  rw [e]
  unfold dx.wr
  rw [if_pos (by decide+kernel)]
  rfl
 rw [h11] at P6
 have D8:Hid (za d=0→∀ w',Calls Tryz.prog 83 #[d.v] w' (fun e w''=>e= .returned (.tuple #[.int .i64 (gV (qF d) 0),.int .i64 0])∧Below w'.heap.size w' w'')):=zh fun h w'=>by
  have hs:(rd d).isSome=true:=by
   unfold za at h
   split at h
   ·assumption
   ·cases h
  obtain ⟨e1,e2⟩:=yP hs
  have:=dG.jW d w'
  have e3:fG d=(gV (qF d) 0,0):=by
   conv=>lhs;rw [e1]
   exact qR e2
  rw [e3] at this
  exact this
 have HCM:Hid (za d=0→∀ w',Calls Tryz.prog 32 #[d.v,(Fr.of 1).v] w' (fun e w''=>e= .returned (.tuple #[.int .i64 (gV (qF d) 1),.int .i64 0])∧Below w'.heap.size w' w'')):=zh fun h w'=>by
  have hs:(rd d).isSome=true:=by
   unfold za at h
   split at h
   ·assumption
   ·cases h
  obtain ⟨e1,e2⟩:=yP hs
  have:=dG.ag4 d (Fr.of 1) w'
  have e3:PG d (Fr.of 1)=(gV (qF d) 1,0):=by
   conv=>lhs;rw [e1]
   unfold PG
   rw [jc e2,jc (show dz 1=true by decide+kernel)]
  rw [e3] at this
  exact this
 have Yq:Hid (za d=0→d=Fr.of (qF d)∧dz (qF d)=true):=zh fun h=>yP (by
   unfold za at h
   split at h
   ·assumption
   ·cases h)
 have Ud:Hid (light.gF a=0→∀ va w',Below w.heap.size w w'→bQ w' va (aY (k - 1).toNat).fr→iB k=0→Calls Tryz.prog 84 #[va,a.v] w' (aU w' (if dM (fH k a) then 0 else 6) (fun v _=>v=(bJ (fH k a)).v))):=zh fun h va w' hb hv hk=>by
  obtain ⟨e1,e2⟩:=QY (G7 h)
  have hm:(k - 1).toNat<4:=by
   unfold iB at hk
   by_cases h:k<1∨4<k
   ·rw [if_pos h] at hk;cases hk
   ·omega
  have:=Mx va (aY (k - 1).toNat) (qT a) w' hv (tH _ hm) rfl e2 (ht.later hb)
  rw [← e1] at this
  exact this
 have Uc:Hid (light.gF b=0→∀ va w',Below w.heap.size w w'→bQ w' va (aY (k - 1).toNat).fr→iB k=0→Calls Tryz.prog 84 #[va,b.v] w' (aU w' (if dM (fH k b) then 0 else 6) (fun v _=>v=(bJ (fH k b)).v))):=zh fun h va w' hb hv hk=>by
  obtain ⟨e1,e2⟩:=QY (G7 h)
  have hm:(k - 1).toNat<4:=by
   unfold iB at hk
   by_cases h:k<1∨4<k
   ·rw [if_pos h] at hk;cases hk
   ·omega
  have:=Mx va (aY (k - 1).toNat) (qT b) w' hv (tH _ hm) rfl e2 (ht.later hb)
  rw [← e1] at this
  exact this
 have HT:=zh ht
 obtain ⟨fa,Efa⟩:∃ y,Hid (fH k a=y):=⟨_,zh rfl⟩
 obtain ⟨fb,Efb⟩:∃ y,Hid (fH k b=y):=⟨_,zh rfl⟩
 obtain ⟨qd,Eqd⟩:∃ y,Hid (qF d=y):=⟨_,zh rfl⟩
 obtain ⟨sa,Esa⟩:∃ y,Hid (light.gF a=y):=⟨_,zh rfl⟩
 obtain ⟨sb,Esb⟩:∃ y,Hid (light.gF b=y):=⟨_,zh rfl⟩
 obtain ⟨ck,Eck⟩:∃ y,Hid (za d=y):=⟨_,zh rfl⟩
 obtain ⟨ce,Ece⟩:∃ y,Hid (iB k=y):=⟨_,zh rfl⟩
 have hea:mY k a b d=if ce≠0 then ce else if sa≠0 then sa else if sb≠0 then sb else if ck≠0 then ck else if gV qd 0<0∨0<gV qd 1 then 2 else 0:=by
  unfold mY
  rw [Ece.out,Esa.out,Esb.out,Eck.out,Eqd.out]
 have her:gB k a b d=if mY k a b d≠0 then mY k a b d else if dM fa=false then 6 else if dM fb=false then 6 else if eY fa then 7 else if gJ qd (fa 0) (fb 0)&&gJ qd (fa 1) (fb 1)&&gJ qd (fa 2) (fb 2) then 0 else 6:=by
  unfold gB
  rw [Efa.out,Efb.out,Eqd.out]
 have hg:iN k a b d=fun i=>jR qd (fa i) (fb i):=by
  funext i
  unfold iN
  rw [Efa.out,Efb.out,Eqd.out]
 rw [hg]
 obtain ⟨er,Dj⟩:∃ y,Hid (gB k a b d=y):=⟨_,zh rfl⟩
 obtain ⟨ea,Eea⟩:∃ y,Hid (mY k a b d=y):=⟨_,zh rfl⟩
 rw [Dj.out] at her ⊢
 rw [Eea.out] at her hea
 have UO:=zh hea
 have vU:=zh her
 rw [Efa.out] at Ud
 rw [Efb.out] at Uc
 rw [Eqd.out] at D8 HCM Yq
 rw [Esa.out] at Yj Ud
 rw [Esb.out] at Uf Uc
 rw [Eck.out] at rO D8 HCM Yq
 rw [Ece.out] at UQ Ud Uc
 have HEG:Hid (ea≠0→er=ea):=zh fun h=>by rw [vU.out,if_pos h]
 have aI6:=rO
 clear hea her hg h11 Efa Efb Eqd Esa Esb Eck Ece Dj Eea aI6
 obtain ⟨⟨a1,a2⟩,⟨a3,a4⟩,⟨a5,a6⟩⟩:=a
 obtain ⟨⟨b1,b2⟩,⟨b3,b4⟩,⟨b5,b6⟩⟩:=b
 obtain ⟨d1,d2⟩:=d
 obtain ⟨⟨o1,o2⟩,Eo⟩:∃ x:Fr,Hid (Fr.of 1=x):=⟨_,zh rfl⟩
 rw [Eo.out] at P6 HCM
 clear ht hc
 obtain ⟨w0,kE⟩:∃ y,(((w.alloc (.cells #[.string a1,.string a2,.string a3,.string a4,.string a5,.string a6] 38)).alloc (.cells #[.string b1,.string b2,.string b3,.string b4,.string b5,.string b6] 38)).alloc (.cells #[.string d1,.string d2] 36)).alloc (.cells #[.string ⟨#[]⟩,.string ⟨#[]⟩,.string ⟨#[]⟩,.string ⟨#[]⟩,.string ⟨#[]⟩,.string ⟨#[]⟩] 37)=y:=⟨_,rfl⟩
 have hb0:Below w.heap.size w w0:=by rw [← kE];exact aA
 have hxa:au w0 w.heap.size #[.string a1,.string a2,.string a3,.string a4,.string a5,.string a6] 38:=by rw [← kE];exact aJ
 have hxb:au w0 (w.heap.size+1) #[.string b1,.string b2,.string b3,.string b4,.string b5,.string b6] 38:=by rw [← kE];exact aJ
 have hxd:au w0 (w.heap.size+1+1) #[.string d1,.string d2] 36:=by rw [← kE];exact aJ
 have qK:au w0 (w.heap.size+1+1+1) #[.string ⟨#[]⟩,.string ⟨#[]⟩,.string ⟨#[]⟩,.string ⟨#[]⟩,.string ⟨#[]⟩,.string ⟨#[]⟩] 37:=by rw [← kE];exact au.at3 _ _ _ _ _ _
 go_enter Tryz.func36,Tryz.ntmps36
 unfold light.aW.v light.aW.cells Fr.v
 go_wp2_with fail
 clear kE
 refine (UQ.out _ hb0).mono ?_
 rintro e w1 ⟨hb1,vc,rfl,hy1,hy2⟩
 have h1:Below w.heap.size w w1:=Bt hb0 hb1
 by_cases hce:ce=0
 rotate_left
 ·have hv:=hy2 hce
  subst hv
  have HE:Hid (er=ce):=zh (by
   have:ea=ce:=by rw [UO.out,if_pos hce]
   rw [HEG.out (by rw [this];exact hce),this])
  clear hy1 hy2
  go_wp2_with fail
  refine (xZ _ _ _ ce hce _).mono ?_
  rintro e w2 ⟨rfl,rfl⟩
  exact ⟨rfl,by rw [HE.out];exact aU.no h1 hce⟩
 have hmv:=hy1 hce
 clear hy1 hy2
 obtain ⟨rs,hR, -⟩:=id hmv
 obtain ⟨ac,cc,rfl, -⟩:=hR
 have vT:=zh hmv
 have HCE:=zh hce
 subst hce
 clear hmv
 go_wp2_with fail
 refine (qm _ _ _ _).mono ?_
 rintro e w2 ⟨rfl,rfl⟩
 replace hxa:=hxa.later hb1
 replace hxb:=hxb.later hb1
 replace hxd:=hxd.later hb1
 replace qK:=qK.later hb1
 have cxa:=hxa.cell
 go_wp2_with fail
 refine (Yj.out _).mono ?_
 rintro e w3 ⟨rfl,hb3⟩
 have h3:Below w.heap.size w w3:=Bt h1 hb3
 by_cases hsa:sa=0
 rotate_left
 ·have HE:Hid (er=sa):=zh (by
   have:ea=sa:=by rw [UO.out,if_neg zi,if_pos hsa]
   rw [HEG.out (by rw [this];exact hsa),this])
  go_wp2_with fail
  refine (iI sa hsa _).mono ?_
  rintro e w4 ⟨rfl,rfl⟩
  exact ⟨rfl,by rw [HE.out];exact aU.no h3 hsa⟩
 subst hsa
 replace hxa:=hxa.later hb3
 replace hxb:=hxb.later hb3
 replace hxd:=hxd.later hb3
 replace qK:=qK.later hb3
 replace vT:=zh (vT.out.later hb3)
 have cxb:=hxb.cell
 clear cxa
 go_wp2_with fail
 refine (nE _).mono ?_
 rintro e w4 ⟨rfl,rfl⟩
 go_wp2_with fail
 refine (Uf.out _).mono ?_
 rintro e w5 ⟨rfl,hb5⟩
 have h5:Below w.heap.size w w5:=Bt h3 hb5
 by_cases hsb:sb=0
 rotate_left
 ·have HE:Hid (er=sb):=zh (by
   have:ea=sb:=by rw [UO.out,if_neg zi,if_neg zi,if_pos hsb]
   rw [HEG.out (by rw [this];exact hsb),this])
  go_wp2_with fail
  refine (iI sb hsb _).mono ?_
  rintro e w6 ⟨rfl,rfl⟩
  exact ⟨rfl,by rw [HE.out];exact aU.no h5 hsb⟩
 subst hsb
 replace hxa:=hxa.later hb5
 replace hxb:=hxb.later hb5
 replace hxd:=hxd.later hb5
 replace qK:=qK.later hb5
 replace vT:=zh (vT.out.later hb5)
 have cxd:=hxd.cell
 clear cxb
 go_wp2_with fail
 refine (nE _).mono ?_
 rintro e w6 ⟨rfl,rfl⟩
 go_wp2_with fail
 refine (rO.out _).mono ?_
 rintro e w7 ⟨rfl,dQ⟩
 have h7:Below w.heap.size w w7:=Bt h5 dQ
 by_cases hck:ck=0
 rotate_left
 ·have HE:Hid (er=ck):=zh (by
   have:ea=ck:=by rw [UO.out,if_neg zi,if_neg zi,if_neg zi,if_pos hck]
   rw [HEG.out (by rw [this];exact hck),this])
  go_wp2_with fail
  refine (iI ck hck _).mono ?_
  rintro e w8 ⟨rfl,rfl⟩
  exact ⟨rfl,by rw [HE.out];exact aU.no h7 hck⟩
 subst hck
 replace hxa:=hxa.later dQ
 replace hxb:=hxb.later dQ
 replace hxd:=hxd.later dQ
 replace qK:=qK.later dQ
 replace vT:=zh (vT.out.later dQ)
 clear cxd
 go_wp2_with fail
 refine (nE _).mono ?_
 rintro e w8 ⟨rfl,rfl⟩
 go_wp2_with fail
 refine (P6.out _ h7).mono ?_
 rintro e w9 ⟨rfl,gX⟩
 unfold Fr.v
 go_wp2_with fail
 refine (qo ⟨o1,o2⟩ _).mono ?_
 unfold Fr.v
 rintro e wa ⟨rfl,hba⟩
 have h8a:Below w8.heap.size w8 wa:=Bt gX hba
 have ha:Below w.heap.size w wa:=Bt h7 h8a
 replace hxa:=hxa.later h8a
 replace hxb:=hxb.later h8a
 replace hxd:=hxd.later h8a
 replace qK:=qK.later h8a
 replace vT:=zh (vT.out.later h8a)
 clear hb0 hb1 hb3 hb5 dQ gX hba h1 h3 h5 h7 h8a UQ Yj Uf rO P6
 have cxd:=hxd.cell
 have lxd:=hxd.lt
 have hsg:=D8.out (by first|rfl|trivial)
 have hcm:=HCM.out (by first|rfl|trivial)
 obtain ⟨z1,Ez1⟩:∃ y,Hid (gV qd 0=y):=⟨_,zh rfl⟩
 obtain ⟨z2,Ez2⟩:∃ y,Hid (gV qd 1=y):=⟨_,zh rfl⟩
 rw [Ez1.out] at hsg UO
 rw [Ez2.out] at hcm UO
 have af8:=zh hsg
 have ag3:=zh hcm
 unfold Fr.v at af8 ag3
 have hb':Below wa.heap.size wa (wa.alloc (.cells #[.string o1,.string o2] 36)):=aA
 obtain ⟨wb,Ewb⟩:∃ y,wa.alloc (.cells #[.string o1,.string o2] 36)=y:=⟨_,rfl⟩
 have hxo:=au.new wa #[.string o1,.string o2] 36
 rw [Ewb] at hb' hxo
 clear hsg hcm D8 HCM
 replace hxa:=hxa.later hb'
 replace hxb:=hxb.later hb'
 replace hxd:=hxd.later hb'
 replace qK:=qK.later hb'
 replace vT:=zh (vT.out.later hb')
 have hbw:Below w.heap.size w wb:=Bt ha hb'
 obtain ⟨bo,Ebo⟩:∃ y,wa.heap.size=y:=⟨_,rfl⟩
 rw [Ebo] at hxo
 clear hb' ha
 replace cxd:=hxd.cell
 go_wp2_with fail
 clear Ewb Ebo
 refine (af8.out _).mono ?_
 rintro e w3 ⟨rfl,hb3⟩
 have h3:Below w.heap.size w w3:=Bt hbw hb3
 replace hxa:=hxa.later hb3
 replace hxb:=hxb.later hb3
 replace hxd:=hxd.later hb3
 replace qK:=qK.later hb3
 replace hxo:=hxo.later hb3
 replace vT:=zh (vT.out.later hb3)
 replace cxd:=hxd.cell
 have cxo:=hxo.cell
 clear hb3 hbw
 go_wp2_with fail
 refine (mE _ _).mono ?_
 rintro e w4 ⟨rfl,rfl⟩
 by_cases hz1:z1<0
 ·have HE:Hid (er=2):=zh (by
   have:ea=2:=by rw [UO.out,if_neg zi,if_neg zi,if_neg zi,if_neg zi,if_pos (.inl hz1)]
   rw [HEG.out (by rw [this];decide),this])
  have b1:decide (z1<0)=true:=decide_eq_true hz1
  clear hz1
  go_wp2_with fail
  refine (iI 2 zd _).mono ?_
  rintro e w6 ⟨rfl,rfl⟩
  exact ⟨rfl,by rw [HE.out];exact aU.no h3 zd⟩
 have b1:decide (z1<0)=false:=decide_eq_false hz1
 go_wp2_with fail
 refine (ag3.out _).mono ?_
 rintro e w5 ⟨rfl,hb5⟩
 have h5:Below w.heap.size w w5:=Bt h3 hb5
 replace hxa:=hxa.later hb5
 replace hxb:=hxb.later hb5
 replace hxd:=hxd.later hb5
 replace qK:=qK.later hb5
 replace hxo:=hxo.later hb5
 replace vT:=zh (vT.out.later hb5)
 clear hb5 h3 cxd cxo
 go_wp2_with fail
 refine (mE _ _).mono ?_
 rintro e w6 ⟨rfl,rfl⟩
 by_cases hz2:0<z2
 ·have HE:Hid (er=2):=zh (by
   have:ea=2:=by rw [UO.out,if_neg zi,if_neg zi,if_neg zi,if_neg zi,if_pos (.inr hz2)]
   rw [HEG.out (by rw [this];decide),this])
  have b2:decide (0<z2)=true:=decide_eq_true hz2
  clear hz1 hz2
  go_wp2_with fail
  refine (iI 2 zd _).mono ?_
  rintro e w7 ⟨rfl,rfl⟩
  exact ⟨rfl,by rw [HE.out];exact aU.no h5 zd⟩
 have b2:decide (0<z2)=false:=decide_eq_false hz2
 have zG:Hid (er=if dM fa=false then 6 else if dM fb=false then 6 else if eY fa then 7 else if gJ qd (fa 0) (fb 0)&&gJ qd (fa 1) (fb 1)&&gJ qd (fa 2) (fb 2) then 0 else 6):=zh (by
  have:ea=0:=by rw [UO.out,if_neg zi,if_neg zi,if_neg zi,if_neg zi,if_neg zo]
  rw [vU.out,if_neg (by rw [this];simp)])
 clear hz1 hz2 UO vU HEG af8 ag3 Ez1 Ez2
 have hsa:=fun va w' hb hv=>Ud.out (by first|rfl|trivial) va w' hb hv (by first|rfl|trivial)
 have hsb:=fun va w' hb hv=>Uc.out (by first|rfl|trivial) va w' hb hv (by first|rfl|trivial)
 have Yj:=zh hsa
 have Uf:=zh hsb
 obtain ⟨CX,hdo⟩:=Yq.out (by first|rfl|trivial)
 have HDQ:=zh CX
 have HDO:=zh hdo
 clear hsa hsb Ud Uc Yq CX hdo
 have cxa:=hxa.cell
 have cxb:=hxb.cell
 have lxa:=hxa.lt
 have lxb:=hxb.lt
 unfold light.aW.v light.aW.cells at Yj Uf
 go_wp2_with fail
 obtain ⟨⟨⟨f1,f2⟩,⟨f3,f4⟩,⟨f5,f6⟩⟩,Ef⟩:∃ y:light.aW,Hid (bJ fa=y):=⟨_,zh rfl⟩
 obtain ⟨⟨⟨g1,g2⟩,⟨g3,g4⟩,⟨g5,g6⟩⟩,Eg⟩:∃ y:light.aW,Hid (bJ fb=y):=⟨_,zh rfl⟩
 rw [Ef.out] at Yj
 rw [Eg.out] at Uf
 refine aC [(.pure,0),(.read,1),(.pure,3),(.read,4),(.ext,2),(.ext,5),(.alloc #[.string ⟨#[]⟩,.string ⟨#[]⟩,.string ⟨#[]⟩,.string ⟨#[]⟩,.string ⟨#[]⟩,.string ⟨#[]⟩] 137,6),(.alloc #[.string ⟨#[]⟩,.string ⟨#[]⟩,.string ⟨#[]⟩,.string ⟨#[]⟩,.string ⟨#[]⟩,.string ⟨#[]⟩] 137,7),(.fin,8),(.fin,9)] zk zk zR zP ?_
 repeat (first|(refine ah rfl rfl fun J h=>?_;go_simp;refine h _ ?_;clear h J)|(refine aB rfl rfl rfl rfl fun J h=>?_;go_simp;refine h _ ?_;clear h J;try go_simp))
 refine aD rfl rfl (fun w1 hb1 J hJ=>?_);go_simp
 have h61:Below w6.heap.size w6 w1:=aA
 refine (Yj.out _ w1 (Bt h5 h61) (vT.out.later h61)).mono ?_
 rintro e w2 ⟨hb2,⟨he,v,rfl,rfl⟩|⟨he,rfl⟩⟩
 rotate_left
 ·have hf:dM fa=false:=by
   cases h:dM fa with
   | false=>rfl
   | true=>rw [h] at he;exact absurd rfl he
  have HE:Hid (er=6):=zh (by rw [zG.out,if_pos hf])
  have VY:(if dM fa=true then (0:Int) else 6)=6:=by rw [hf];rfl
  rw [VY]
  exact ⟨rfl,by rw [HE.out];exact aU.no (Bt (Bt h5 h61) hb2) zd⟩
 have hfa:dM fa=true:=by
  cases h:dM fa with
  | true=>rfl
  | false=>rw [h] at he;cases he
 have HFA:=zh hfa
 refine hJ _ _ hb2 ?_
 clear hJ J he hfa
 have h62:Below w6.heap.size w6 w2:=Bt h61 hb2
 try unfold light.aW.v light.aW.cells
 repeat (first|(refine ah rfl rfl fun J h=>?_;go_simp;refine h _ ?_;clear h J)|(refine aB rfl rfl rfl rfl fun J h=>?_;go_simp;refine h _ ?_;clear h J;try go_simp))
 refine aD rfl rfl (fun w3 hb3 J hJ=>?_);go_simp
 have h63:Below w6.heap.size w6 w3:=Bt h62 hb3
 refine (Uf.out _ w3 (Bt h5 h63) (vT.out.later h63)).mono ?_
 rintro e w4 ⟨hb4,⟨he,v,rfl,rfl⟩|⟨he,rfl⟩⟩
 rotate_left
 ·have hf:dM fb=false:=by
   cases h:dM fb with
   | false=>rfl
   | true=>rw [h] at he;exact absurd rfl he
  have HE:Hid (er=6):=zh (by rw [zG.out,if_neg (by rw [HFA.out];simp),if_pos hf])
  have VY:(if dM fb=true then (0:Int) else 6)=6:=by rw [hf];rfl
  rw [VY]
  exact ⟨rfl,by rw [HE.out];exact aU.no (Bt (Bt h5 h63) hb4) zd⟩
 have XH:dM fb=true:=by
  cases h:dM fb with
  | true=>rfl
  | false=>rw [h] at he;cases he
 have HFB:=zh XH
 refine hJ _ _ hb4 ?_
 clear hJ J he XH
 have h64:Below w6.heap.size w6 w4:=Bt h63 hb4
 try unfold light.aW.v light.aW.cells
 repeat (first|(refine ah rfl rfl fun J h=>?_;go_simp;refine h _ ?_;clear h J)|(refine aB rfl rfl rfl rfl fun J h=>?_;go_simp;refine h _ ?_;clear h J;try go_simp))
 refine aR rfl (fun p1 w5 UG av8 aJ9 aV2 wN=>?_);go_simp;replace wN:au _ _ _ _:=wN;have aV1:w.heap.size≤p1:=(by first|omega|exact Nat.le_trans (Below.size (B:=w.heap.size) aA) av8)
 
 refine aR rfl (fun p2 w7 hw7 av7 aJ8 aG9 FC=>?_);go_simp;replace FC:au _ _ _ _:=FC;have aV0:w.heap.size≤p2:=(by first|omega|exact Nat.le_trans (Below.size (B:=w.heap.size) aA) av7)
 replace wN:=au.later (wN) hw7;replace Yc:=wN.cell;replace XW:=wN.free;replace Xw:=wN.lt
 refine aI [_,_] rfl (fun w8 kD=>?_)
 replace wN:=au.later (wN) kD;replace Yc:=wN.cell;replace XW:=wN.free;replace Xw:=wN.lt;replace FC:=au.later (FC) kD;replace aw5:=FC.cell;replace aw3:=FC.free;replace an5:=FC.lt
 have h68:Below w6.heap.size w6 w8:=aA
 have n12:p1≠p2:=fun e=>aG9 (by simp [e])
 have n21:p2≠p1:=fun e=>n12 e.symm
 have Qk:w6.heap.size≤p1:=av8
 have ge2:w6.heap.size≤p2:=av7
 have M4:∀ (fn:Fn) (first cap:Array Value) (w:World),(Instr.makeFunc fn first cap).run Tryz.prog w= .ok (.func fn first cap) w:=fun _ _ _ _=>rfl
 have haz:=fun w'=>LA fa HFA.out w'
 rw [Ef.out] at haz
 have HAZ:=zh haz
 unfold light.aW.v light.aW.cells at HAZ
 obtain ⟨wn,Ewn⟩:∃ y,((((((((((((w8.setCell ⟨p1,0,none⟩ (.string f1)).setCell ⟨p1,1,none⟩ (.string f2)).setCell ⟨p1,2,none⟩ (.string f3)).setCell ⟨p1,3,none⟩ (.string f4)).setCell ⟨p1,4,none⟩ (.string f5)).setCell ⟨p1,5,none⟩ (.string f6)).setCell ⟨p2,0,none⟩ (.string g1)).setCell ⟨p2,1,none⟩ (.string g2)).setCell ⟨p2,2,none⟩ (.string g3)).setCell ⟨p2,3,none⟩ (.string g4)).setCell ⟨p2,4,none⟩ (.string g5)).setCell ⟨p2,5,none⟩ (.string g6))=y:=⟨_,rfl⟩
 have h6n:Below w6.heap.size w6 wn:=by
  rw [← Ewn]
  exact (((((((((((h68.setCell Qk _).setCell Qk _).setCell Qk _).setCell Qk _).setCell Qk _).setCell Qk _).setCell ge2 _).setCell ge2 _).setCell ge2 _).setCell ge2 _).setCell ge2 _).setCell ge2 _
 have hX1:au wn p1 #[.string f1,.string f2,.string f3,.string f4,.string f5,.string f6] 137:=by
  rw [← Ewn]
  exact (((((((((((wN.set 0 _).set 1 _).set 2 _).set 3 _).set 4 _).set 5 _).setOther _ n12).setOther _ n12).setOther _ n12).setOther _ n12).setOther _ n12).setOther _ n12
 have hX2:au wn p2 #[.string g1,.string g2,.string g3,.string g4,.string g5,.string g6] 137:=by
  rw [← Ewn]
  exact (((((((((((FC.setOther _ n21).setOther _ n21).setOther _ n21).setOther _ n21).setOther _ n21).setOther _ n21).set 0 _).set 1 _).set 2 _).set 3 _).set 4 _).set 5 _
 have eP:=hX1.cell
 have eO:=hX1.lt
 clear h61 h62 h63 h64 h68 haz hb1 hb2 hb3 hb4 kD cxa cxb lxa lxb
 go_wp2_with fail
 clear Yc XW Xw aw5 aw3 an5 wN FC Ewn
 refine (HAZ.out _).mono ?_
 rintro e wz ⟨rfl,hbz⟩
 have h6z:Below w6.heap.size w6 wz:=Bt h6n hbz
 have hwz:Below w.heap.size w wz:=Bt h5 h6z
 by_cases hz0:eY fa=true
 ·have HE:Hid (er=7):=zh (by rw [zG.out,if_neg (by rw [HFA.out];simp),if_neg (by rw [HFB.out];simp),if_pos hz0])
  rw [hz0]
  go_wp2_with fail
  refine (iI 7 zd _).mono ?_
  rintro e w7 ⟨rfl,rfl⟩
  exact ⟨rfl,by rw [HE.out];exact aU.no hwz zd⟩
 have hz1:eY fa=false:=by simpa using hz0
 have HZF:=zh hz1
 rw [hz1]
 have Ui:Hid (er=if gJ qd (fa 0) (fb 0)&&gJ qd (fa 1) (fb 1)&&gJ qd (fa 2) (fb 2) then 0 else 6):=zh (by
  rw [zG.out,if_neg (by rw [HFA.out];simp),if_neg (by rw [HFB.out];simp),if_neg hz0])
 have HX1:=zh (hX1.later hbz)
 have Ua:=zh (hX2.later hbz)
 have HXD:=zh (hxd.later h6z)
 have HXO:=zh (hxo.later h6z)
 have HXR:=zh (qK.later h6z)
 clear hz0 hz1 hX1 hX2 eP eO hxa hxb hxd hxo qK h6n h6z hbz h5 vT HAZ Yj Uf zG
 go_wp2_with fail
 have Yo:Hid (∀ k:Nat,k<3→∀ W,Below wz.heap.size wz W→Calls Tryz.prog 86 #[.int .i64 (k:Int),.pointer (some ⟨p2,0,none⟩),.pointer (some ⟨p1,0,none⟩),.pointer (some ⟨w.heap.size+1+1,0,none⟩),.pointer (some ⟨bo,0,none⟩)] W (aU W (if gJ qd (fa k) (fb k) then 0 else 6) (fun v _=>v=(Fr.of (jR qd (fa k) (fb k))).v))):=zh fun k hk W hW=>by
  have hfa:=HFA.out
  have XH:=HFB.out
  have hz:=HZF.out
  unfold dM at hfa XH
  unfold eY at hz
  simp only [Bool.and_eq_true] at hfa XH
  simp only [Bool.or_eq_false_iff,decide_eq_false_iff_not] at hz
  have hx1:=HX1.out.later hW
  have hx2:=Ua.out.later hW
  have hxd:=HXD.out.later hW
  have hxo:=HXO.out.later hW
  have e1:(bJ fa).cells=#[.string f1,.string f2,.string f3,.string f4,.string f5,.string f6]:=by rw [Ef.out];rfl
  have e2:(bJ fb).cells=#[.string g1,.string g2,.string g3,.string g4,.string g5,.string g6]:=by rw [Eg.out];rfl
  rw [← e1] at hx1
  rw [← e2] at hx2
  have e3:#[Value.string d1,.string d2]=#[.string (Fr.of qd).n,.string (Fr.of qd).d]:=by rw [← HDQ.out]
  have e4:#[Value.string o1,.string o2]=#[.string (Fr.of 1).n,.string (Fr.of 1).d]:=by rw [Eo.out]
  rw [e3] at hxd
  rw [e4] at hxo
  have hk3:k=0∨k=1∨k=2:=by omega
  refine Wm p2 p1 _ bo k fb fa qd W hx2 hx1 hxd hxo hk ?_ ?_ ?_ HDO.out (HT.out.later (Bt hwz hW))
  ·rcases hk3 with rfl|rfl|rfl
   ·exact XH.1.1
   ·exact XH.1.2
   ·exact XH.2
  ·rcases hk3 with rfl|rfl|rfl
   ·exact hfa.1.1
   ·exact hfa.1.2
   ·exact hfa.2
  ·rcases hk3 with rfl|rfl|rfl
   ·exact hz.1.1
   ·exact hz.1.2
   ·exact hz.2
 have h0z:Below wz.heap.size wz (wz.alloc (.cells #[.string ⟨#[]⟩,.string ⟨#[]⟩,.string ⟨#[]⟩,.string ⟨#[]⟩,.string ⟨#[]⟩,.string ⟨#[]⟩] 37)):=aA
 have HB0:=zh (au.new wz #[.string ⟨#[]⟩,.string ⟨#[]⟩,.string ⟨#[]⟩,.string ⟨#[]⟩,.string ⟨#[]⟩,.string ⟨#[]⟩] 37)
 obtain ⟨gq,Egq⟩:∃ y:Nat→Rat,Hid ((fun k:Nat=>jR qd (fa k) (fb k))=y):=⟨_,zh rfl⟩
 obtain ⟨ok,Eok⟩:∃ y:Nat→Bool,Hid ((fun k:Nat=>gJ qd (fa k) (fb k))=y):=⟨_,zh rfl⟩
 have e1:∀ k:Nat,jR qd (fa k) (fb k)=gq k:=fun k=>by rw [← Egq.out]
 have e2:∀ k:Nat,gJ qd (fa k) (fb k)=ok k:=fun k=>by rw [← Eok.out]
 simp only [e1,e2] at Yo Ui
 clear HX1 Ua HXD HXO e1 e2 Eok HFA HFB HZF HDQ HDO Ef Eg Eo M4
 go_loopw [61] (fun iv wr=>∃ (k:Nat) (s1 s2 s3 s4 s5 s6:ByteArray),iv= .int .i64 (k:Int)∧k≤3∧Hid (au wr wz.heap.size #[.string s1,.string s2,.string s3,.string s4,.string s5,.string s6] 37)∧Hid ((0<k→(⟨s1,s2⟩:Fr)=Fr.of (gq 0))∧(1<k→(⟨s3,s4⟩:Fr)=Fr.of (gq 1))∧(2<k→(⟨s5,s6⟩:Fr)=Fr.of (gq 2))∧∀ j,j<k→ok j=true)∧Below wz.heap.size wz wr) (fun iv _=>3 - (intOf iv).toNat)
 case atStart=>exact ⟨0,_,_,_,_,_,_,rfl,by omega,HB0,zh ⟨fun h=>by omega,fun h=>by omega,fun h=>by omega,fun j h=>by omega⟩,h0z⟩
 case round =>
  obtain ⟨k,s1,s2,s3,s4,s5,s6,rfl,hk,HB,HK,hb⟩:=hrel
  have c14:=HB.out.cell
  have l14:=HB.out.lt
  rcases Nat.lt_or_ge k 3 with hlt|hge
  ·have hk3:k=0∨k=1∨k=2:=by omega
   rcases hk3 with rfl|rfl|rfl
   ·have hcall:=Yo.out 0 zo _ hb
    have zn:=zh hcall
    clear hcall
    go_wp2_with fail
    refine zn.out.mono ?_
    rintro e w2 ⟨hb2,⟨he,v,rfl,rfl⟩|⟨he,rfl⟩⟩
    rotate_left
    ·have hf:ok 0=false:=by
      cases h:ok 0 with
      | false=>rfl
      | true=>rw [h] at he;exact absurd rfl he
     have HE:Hid (er=6):=zh (by rw [Ui.out,hf];simp)
     have VY:(if ok 0=true then (0:Int) else 6)=6:=by rw [hf];rfl
     rw [VY]
     exact ⟨rfl,by rw [HE.out];exact aU.no (Bt (Bt hwz hb) hb2) zd⟩
    have hok:ok 0=true:=by
     cases h:ok 0 with
     | true=>rfl
     | false=>rw [h] at he;cases he
    have Gm:=zh hok
    obtain ⟨⟨t1,t2⟩,Yi⟩:∃ y:Fr,Hid (y=Fr.of (gq 0)):=⟨_,zh rfl⟩
    rw [← Yi.out]
    unfold Fr.v
    have hB2:=HB.out.later hb2
    have c2:=hB2.cell
    have f2:=hB2.free
    clear he hok zn c14 l14
    go_wp2_with fail
    go_roundw
    case rel =>
     refine ⟨0+1,t1,t2,s3,s4,s5,s6,by go_num,by omega,zh ((hB2.set 0 _).set 1 _),zh ⟨fun _=>Yi.out,fun h=>by omega,fun h=>by omega,fun j hj=>?_⟩,((Bt hb hb2).setCell (Nat.le_refl _) _).setCell (Nat.le_refl _) _⟩
     rcases Nat.lt_or_ge j 0 with h|h
     ·exact HK.out.2.2.2 j h
     ·obtain rfl:j=0:=by omega
      exact Gm.out
    case measure=>simp [intOf]
   ·have hcall:=Yo.out 1 zo _ hb
    have zn:=zh hcall
    clear hcall
    go_wp2_with fail
    refine zn.out.mono ?_
    rintro e w2 ⟨hb2,⟨he,v,rfl,rfl⟩|⟨he,rfl⟩⟩
    rotate_left
    ·have hf:ok 1=false:=by
      cases h:ok 1 with
      | false=>rfl
      | true=>rw [h] at he;exact absurd rfl he
     have HE:Hid (er=6):=zh (by rw [Ui.out,hf];simp)
     have VY:(if ok 1=true then (0:Int) else 6)=6:=by rw [hf];rfl
     rw [VY]
     exact ⟨rfl,by rw [HE.out];exact aU.no (Bt (Bt hwz hb) hb2) zd⟩
    have hok:ok 1=true:=by
     cases h:ok 1 with
     | true=>rfl
     | false=>rw [h] at he;cases he
    have Gm:=zh hok
    obtain ⟨⟨t1,t2⟩,Yi⟩:∃ y:Fr,Hid (y=Fr.of (gq 1)):=⟨_,zh rfl⟩
    rw [← Yi.out]
    unfold Fr.v
    have hB2:=HB.out.later hb2
    have c2:=hB2.cell
    have f2:=hB2.free
    clear he hok zn c14 l14
    go_wp2_with fail
    go_roundw
    case rel =>
     refine ⟨1+1,s1,s2,t1,t2,s5,s6,by go_num,by omega,zh ((hB2.set 2 _).set 3 _),zh ⟨fun _=>HK.out.1 zo,fun _=>Yi.out,fun h=>by omega,fun j hj=>?_⟩,((Bt hb hb2).setCell (Nat.le_refl _) _).setCell (Nat.le_refl _) _⟩
     rcases Nat.lt_or_ge j 1 with h|h
     ·exact HK.out.2.2.2 j h
     ·obtain rfl:j=1:=by omega
      exact Gm.out
    case measure=>simp [intOf]
   ·have hcall:=Yo.out 2 zo _ hb
    have zn:=zh hcall
    clear hcall
    go_wp2_with fail
    refine zn.out.mono ?_
    rintro e w2 ⟨hb2,⟨he,v,rfl,rfl⟩|⟨he,rfl⟩⟩
    rotate_left
    ·have hf:ok 2=false:=by
      cases h:ok 2 with
      | false=>rfl
      | true=>rw [h] at he;exact absurd rfl he
     have HE:Hid (er=6):=zh (by rw [Ui.out,hf];simp)
     have VY:(if ok 2=true then (0:Int) else 6)=6:=by rw [hf];rfl
     rw [VY]
     exact ⟨rfl,by rw [HE.out];exact aU.no (Bt (Bt hwz hb) hb2) zd⟩
    have hok:ok 2=true:=by
     cases h:ok 2 with
     | true=>rfl
     | false=>rw [h] at he;cases he
    have Gm:=zh hok
    obtain ⟨⟨t1,t2⟩,Yi⟩:∃ y:Fr,Hid (y=Fr.of (gq 2)):=⟨_,zh rfl⟩
    rw [← Yi.out]
    unfold Fr.v
    have hB2:=HB.out.later hb2
    have c2:=hB2.cell
    have f2:=hB2.free
    clear he hok zn c14 l14
    go_wp2_with fail
    go_roundw
    case rel =>
     refine ⟨2+1,s1,s2,s3,s4,t1,t2,by go_num,by omega,zh ((hB2.set 4 _).set 5 _),zh ⟨fun _=>HK.out.1 zo,fun _=>HK.out.2.1 zo,fun _=>Yi.out,fun j hj=>?_⟩,((Bt hb hb2).setCell (Nat.le_refl _) _).setCell (Nat.le_refl _) _⟩
     rcases Nat.lt_or_ge j 2 with h|h
     ·exact HK.out.2.2.2 j h
     ·obtain rfl:j=2:=by omega
      exact Gm.out
    case measure=>simp [intOf]
  ·have hk3:k=3:=by omega
   subst hk3
   obtain ⟨q1,q2,q3,q4⟩:=HK.out
   have HE:Hid (er=0):=zh (by rw [Ui.out,q4 0 zo,q4 1 zo,q4 2 zo];rfl)
   have HTV:Hid ((bJ gq).v= .agg #[.string s1,.string s2,.string s3,.string s4,.string s5,.string s6]):=zh (by
    unfold bJ
    rw [← q1 zo,← q2 zo,← q3 zo]
    rfl)
   have hr:=HXR.out.later hb
   have cr:=hr.cell
   have fr:=hr.free
   have HGQ:Hid ((fun i=>jR qd (fa i) (fb i))=gq):=Egq
   clear q1 q2 q3 q4
   go_wp2_with fail
   refine bO rfl rfl ((((((hr.set 0 _).set 1 _).set 2 _).set 3 _).set 4 _).set 5 _) Tryz.underlying37 rfl zk ?_
   rw [HE.out,HGQ.out]
   refine aU.yes ?_ (by show _=(bJ gq).v;rw [HTV.out];rfl)
   have hww:=Bt hwz hb
   have hsz:w.heap.size≤w.heap.size+1+1+1:=by omega
   exact (((((hww.setCell hsz _).setCell hsz _).setCell hsz _).setCell hsz _).setCell hsz _).setCell hsz _
def vW (w:World) (pk pa pb pd:Nat) (k:Int) (a b:light.aW) (d:Fr):Prop:=au w pk #[.int .i64 k] 3∧au w pa a.cells 38∧au w pb b.cells 38∧au w pd #[.string d.n,.string d.d] 36
theorem vW.later {w w':World} {pk pa pb pd:Nat} {k:Int} {a b:light.aW} {d:Fr} (h:vW w pk pa pb pd k a b d) (hb:Below w.heap.size w w'):vW w' pk pa pb pd k a b d:=⟨h.1.later hb,h.2.1.later hb,h.2.2.1.later hb,h.2.2.2.later hb⟩
theorem Px (pk pa pb pd:Nat) (k:Int) (a b:light.aW) (d:Fr) (w:World) (h:vW w pk pa pb pd k a b d) (ht:pE.Pow w) (hc:kr w) :
  Calls Tryz.prog 71 #[.pointer (some ⟨pk,0,none⟩),.pointer (some ⟨pa,0,none⟩),.pointer (some ⟨pb,0,none⟩),.pointer (some ⟨pd,0,none⟩)] w (aU w (gB k a b d) (fun v _=>v=(bJ (iN k a b d)).v)):=by
 have HG:=zh (fun w' (hb:Below w.heap.size w w')=>IG k a b d w' (ht.later hb) (hc.later hb))
 obtain ⟨er,Dj⟩:∃ y,Hid (gB k a b d=y):=⟨_,zh rfl⟩
 obtain ⟨⟨⟨q1,q2⟩,⟨q3,q4⟩,⟨q5,q6⟩⟩,EG⟩:∃ y:light.aW,Hid (bJ (iN k a b d)=y):=⟨_,zh rfl⟩
 rw [Dj.out,EG.out] at HG ⊢
 obtain ⟨hk,ha,hb,hd⟩:=h
 obtain ⟨⟨a1,a2⟩,⟨a3,a4⟩,⟨a5,a6⟩⟩:=a
 obtain ⟨⟨b1,b2⟩,⟨b3,b4⟩,⟨b5,b6⟩⟩:=b
 obtain ⟨d1,d2⟩:=d
 unfold light.aW.v light.aW.cells Fr.v at HG
 unfold light.aW.cells at ha hb
 have ck:=hk.cell
 have ca:=ha.cell
 have cb:=hb.cell
 have cd:=hd.cell
 have lk:=hk.lt
 have la:=ha.lt
 have lb:=hb.lt
 have ld:=hd.lt
 clear ht hc hk ha hb hd Dj EG
 have hb0:Below w.heap.size w (w.alloc (.cells #[.string ⟨#[]⟩,.string ⟨#[]⟩,.string ⟨#[]⟩,.string ⟨#[]⟩,.string ⟨#[]⟩,.string ⟨#[]⟩] 37)):=aA
 have hr0:=au.new w #[.string ⟨#[]⟩,.string ⟨#[]⟩,.string ⟨#[]⟩,.string ⟨#[]⟩,.string ⟨#[]⟩,.string ⟨#[]⟩] 37
 go_enter Tryz.func71,Tryz.ntmps71
 go_wp2_with fail
 refine (HG.out _ hb0).mono ?_
 rintro e w1 ⟨hb1,⟨rfl,v,rfl,rfl⟩|⟨he,rfl⟩⟩
 ·have hr1:=hr0.later hb1
  have cr:=hr1.cell
  have fr:=hr1.free
  go_wp2_with fail
  refine bO rfl rfl ((((((hr1.set 0 _).set 1 _).set 2 _).set 3 _).set 4 _).set 5 _) Tryz.underlying37 rfl zk ?_
  have hw:=Bt hb0 hb1
  have hsz:w.heap.size≤w.heap.size:=Nat.le_refl _
  exact aU.yes ((((((hw.setCell hsz _).setCell hsz _).setCell hsz _).setCell hsz _).setCell hsz _).setCell hsz _) rfl
 ·exact ⟨rfl,aU.no (Bt hb0 hb1) he⟩
theorem Un (k:Int) (a b:light.aW) (d:Fr) (w:World) (ht:pE.Pow w) (hc:kr w) :
  Calls Tryz.prog 27 #[.int .i64 k,a.v,b.v,d.v] w (jV w (gB k a b d) (bJ (iN k a b d))):=by
 have M4:∀ (fn:Fn) (first cap:Array Value) (w:World),(Instr.makeFunc fn first cap).run Tryz.prog w= .ok (.func fn first cap) w:=fun _ _ _ _=>rfl
 obtain ⟨w0,kE⟩:∃ y,((((w.alloc (.cells #[.int .i64 k] 3)).alloc (.cells a.cells 38)).alloc (.cells b.cells 38)).alloc (.cells #[.string d.n,.string d.d] 36)).alloc (.cells #[.string ⟨#[]⟩,.string ⟨#[]⟩,.string ⟨#[]⟩,.string ⟨#[]⟩,.string ⟨#[]⟩,.string ⟨#[]⟩] 37)=y:=⟨_,rfl⟩
 have hb0:Below w.heap.size w w0:=by rw [← kE];exact aA
 have hA:vW w0 w.heap.size (w.heap.size+1) (w.heap.size+1+1) (w.heap.size+1+1+1) k a b d:=by
  rw [← kE]
  exact ⟨aJ,aJ,aJ,(au.at3 _ _ _ _ _ _).alloc _⟩
 have hr0:au w0 (w.heap.size+1+1+1+1) #[.string ⟨#[]⟩,.string ⟨#[]⟩,.string ⟨#[]⟩,.string ⟨#[]⟩,.string ⟨#[]⟩,.string ⟨#[]⟩] 37:=by rw [← kE];exact au.pJ zi
 obtain ⟨er,Dj⟩:∃ y,Hid (gB k a b d=y):=⟨_,zh rfl⟩
 obtain ⟨g,Eg⟩:∃ y:light.aW,Hid (bJ (iN k a b d)=y):=⟨_,zh rfl⟩
 have hat:=Jr 71 #[.pointer (some ⟨w.heap.size,0,none⟩),.pointer (some ⟨w.heap.size+1,0,none⟩),.pointer (some ⟨w.heap.size+1+1,0,none⟩),.pointer (some ⟨w.heap.size+1+1+1,0,none⟩)] (gB k a b d) (bJ (iN k a b d)) w0
  (fun W hW=>Px _ _ _ _ k a b d W (hA.later hW) ((ht.later hb0).later hW) ((hc.later hb0).later hW)) (fun args W=>enters_of Tryz.func71 zk rfl args W)
 rw [Dj.out,Eg.out] at hat ⊢
 have HAT:=zh hat
 obtain ⟨gg,Egg⟩:∃ y:light.aW,Hid ((if er=0 then g else yS)=y):=⟨_,zh rfl⟩
 obtain ⟨⟨a1,a2⟩,⟨a3,a4⟩,⟨a5,a6⟩⟩:=a
 obtain ⟨⟨b1,b2⟩,⟨b3,b4⟩,⟨b5,b6⟩⟩:=b
 obtain ⟨d1,d2⟩:=d
 unfold light.aW.cells at kE
 simp only at kE
 have HR:Hid (jV w er g=fun e w'=>Below w.heap.size w w'∧e= .returned (.tuple #[gg.v,.int .i64 er])):=zh (by unfold jV;rw [Egg.out])
 have HR0:Hid (jV w0 er g=fun e w'=>Below w0.heap.size w0 w'∧e= .returned (.tuple #[gg.v,.int .i64 er])):=zh (by unfold jV;rw [Egg.out])
 rw [HR.out]
 rw [HR0.out] at HAT
 obtain ⟨⟨g1,g2⟩,⟨g3,g4⟩,⟨g5,g6⟩⟩:=gg
 unfold light.aW.v light.aW.cells at HAT ⊢
 clear hat ht hc hA HR HR0 Egg Dj Eg
 go_enter Tryz.func27,Tryz.ntmps27
 unfold Fr.v
 go_wp2_with fail
 clear kE
 refine HAT.out.mono ?_
 rintro e w1 ⟨hb1,rfl⟩
 have hr1:=hr0.later hb1
 have cr:=hr1.cell
 have fr:=hr1.free
 clear HAT
 go_wp2_with fail
 refine aP rfl rfl ((((((hr1.set 0 _).set 1 _).set 2 _).set 3 _).set 4 _).set 5 _) Tryz.underlying37 rfl zk ?_
 have hw:=Bt hb0 hb1
 have hsz:w.heap.size≤w.heap.size+1+1+1+1:=by omega
 exact ⟨(((((hw.setCell hsz _).setCell hsz _).setCell hsz _).setCell hsz _).setCell hsz _).setCell hsz _,rfl⟩
end Go.Proofs.adapt
