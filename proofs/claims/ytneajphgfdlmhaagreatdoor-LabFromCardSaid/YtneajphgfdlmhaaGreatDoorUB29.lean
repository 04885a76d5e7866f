/- Lemmas for the proof. No condition. -/
import Derived.Test.YtneajphgfdlmhaaGreatDoorUB14
import Derived.Test.YtneajphgfdlmhaaGreatDoorUB22
import Derived.RangeFuncLeaves
import Derived.RangeFuncFrom
import Derived.Shelf.Abstract
import Derived.OwnWalkIn
import Derived.TacticsInMore
import Derived.LoopNIn
import Derived.LoopIn
import Derived.RangeFuncNested
import Derived.RangeFuncBound
import Derived.RangeFuncCalls
set_option linter.unusedVariables false
set_option linter.unusedSimpArgs false
set_option maxRecDepth 100000
set_option maxHeartbeats 16000000
open Bool renaming and_eq_true → aG
open Go.Ending renaming returned → ah
open Go.IntKind renaming i64 → I
open Go.Value renaming agg → au, bool → ak, int → Z, pointer → aA, slice → aj, string → O, tuple → aD
open List renaming all_eq_true → eZ, cons_append → dx, getElem_mem → fq, length_cons → bg, mem_cons → dR, not_mem_nil → jP
open Nat renaming le_refl → aC, le_trans → ay, lt_of_lt_of_le → aI, lt_or_ge → aR
namespace Go.Proofs.light
open Go Go.RowKit Go.Shelf Go.SW Go.Num Go.Mem Go.Proofs Go.Dec Go.gB
attribute [local go_sem] Oper.semAt_some
structure iC where
 x:Fr
 y:Fr
 z:Fr
deriving DecidableEq
def iC.cells (t:iC):Array Value:=#[O t.x.n,O t.x.d,O t.y.n,O t.y.d,O t.z.n,O t.z.d]
def iC.v (t:iC):Value:=au t.cells
def iC.get (t:iC) (i:Nat):Fr:=if i=0 then t.x else if i=1 then t.y else t.z
def iC.list (t:iC):List Fr:=[t.x,t.y,t.z]
def enc (t:iC) (k:Fin 3):Array Value:=#[Z I (k.1:Int),(t.get k.1).v]
def upto (k:Nat) (h:k≤3):List (Fin 3):=List.ofFn (n:=k) fun i=>⟨i.1,aI i.2 h⟩
theorem rR {k:Nat} (h:k+1≤3):upto (k+1) h=upto k zo++[⟨k,h⟩]:=by
 unfold upto;rw [List.ofFn_succ_last];rfl
theorem kU {k:Nat} (h:k≤3):(upto k h).length=k:=by simp [upto]
theorem ai7 (a b c d e f:ByteArray) (w:World):(Instr.index 34 (au #[O a,O b,O c,O d,O e,O f]) (Z I 0)).run Tryz.prog w= .ok (au #[O a,O b]) w:=by kernel_rfl
theorem ai6 (a b c d e f:ByteArray) (w:World):(Instr.index 34 (au #[O a,O b,O c,O d,O e,O f]) (Z I 1)).run Tryz.prog w= .ok (au #[O c,O d]) w:=by kernel_rfl
theorem ai5 (a b c d e f:ByteArray) (w:World):(Instr.index 34 (au #[O a,O b,O c,O d,O e,O f]) (Z I 2)).run Tryz.prog w= .ok (au #[O e,O f]) w:=by kernel_rfl
theorem JU (F:Fence) (n:Nat) (hf:F.fn 198) (hro:F.round=none) (hn:1≤n) (l Bs n₀:Nat) (a b c d e f:ByteArray) (J Jx:List (Fin 3)→World→Prop) (B₀:Nat) (hJ0:AbidesFrom B₀ J)
  (hY:∀ pre x W,J pre W→pre.length<3→YieldAt F (n - 1) Tryz.prog l (enc ⟨⟨a,b⟩,⟨c,d⟩,⟨e,f⟩⟩ x) W fun en W' =>
   (en= ah (ak true)∧J (pre++[x]) W'∧Below n₀ W W')∨(en= ah (ak false)∧Jx (pre++[x]) W'))
  (W:World) (hn₀:n₀≤W.heap.size) (hBs:∀ o,W.cell? ⟨Bs,o,none⟩=#[Value.string a,O b,O c,O d,O e,O f][o]?) (h0:J [] W) :
  CallsIn F n Tryz.prog 198 #[.func (.yield l) #[] #[],aA (some ⟨Bs,0,none⟩)] W fun en W'=>(∃ v,en= ah v) ∧
   ((∃ ys,ys=upto 3 (aC _)∧J ys W')∨(∃ pre,True∧Jx pre W')):=by
 have i0:=ai7 a b c d e f;have i1:=ai6 a b c d e f;have i2:=ai5 a b c d e f;refine callsIn_of_wp Tryz.func198 rfl hf ?_ hro;simp only [Tryz.ntmps198,List.size_toArray,bg,List.length_nil,Nat.reduceAdd,Nat.reduceSub,Array.replicate_succ,Array.replicate_zero,List.push_toArray,List.append_toArray,List.nil_append,dx]
 gi_wp2
 gi_loopw [6] (fun i wr=>∃ (k:Nat) (hk:k≤3),i= Z I k∧J (upto k hk) wr∧Below n₀ W wr)
  (fun i _=>3 - (intOf i).toNat)
 case atStart=>exact ⟨0,Nat.zero_le _,rfl,h0,Below.refl _ _⟩
 case round =>
  obtain ⟨k,hk,rfl,hJs,hnx⟩:=hrel
  by_cases hlt:k<3
  ·have hkk:k=0∨k=1∨k=2:=by omega
   rcases hkk with rfl|rfl|rfl
   ·have Zj:J (upto 0 hk) (wr.alloc (.cells #[O a,O b] 32)):=hJ0 _ _ _ none hJs (World.grownBy_alloc _ _ none) (fun r e=>by cases e);have hB1:Below n₀ W (wr.alloc (.cells #[O a,O b] 32)):=hnx.alloc (ay hn₀ hnx.size) _;obtain ⟨fn,tmps,assign,body,hy,hR⟩:=hY _ ⟨0,hlt⟩ _ Zj (by rw [kU];exact hlt);have hy2:(Instr.yield l #[Value.int I 0,Value.agg #[Value.string a,Value.string b]]).run Tryz.prog (wr.alloc (.cells #[O a,O b] 32))=_:=hy;clear hy hY
    gi_wp2
    refine hR.mono ?_;rintro e W3 (⟨rfl,hJ3,hk3⟩|⟨rfl,hJx3⟩)
    ·gi_wp2
     go_roundw
     case rel=>exact ⟨0+1,hlt,by simp,by rw [rR];exact hJ3,hB1.trans hk3⟩
     case measure=>simp [intOf]
    ·gi_wp2
     refine bodyPost_ret (results_none rfl _ _ _) rfl ?_;exact ⟨⟨_,rfl⟩,.inr ⟨_,trivial,hJx3⟩⟩
   ·have Zj:J (upto 1 hk) (wr.alloc (.cells #[O c,O d] 32)):=hJ0 _ _ _ none hJs (World.grownBy_alloc _ _ none) (fun r e=>by cases e);have hB1:Below n₀ W (wr.alloc (.cells #[O c,O d] 32)):=hnx.alloc (ay hn₀ hnx.size) _;obtain ⟨fn,tmps,assign,body,hy,hR⟩:=hY _ ⟨1,hlt⟩ _ Zj (by rw [kU];exact hlt);have hy2:(Instr.yield l #[Value.int I 1,Value.agg #[Value.string c,Value.string d]]).run Tryz.prog (wr.alloc (.cells #[O c,O d] 32))=_:=hy;clear hy hY
    gi_wp2
    refine hR.mono ?_;rintro e W3 (⟨rfl,hJ3,hk3⟩|⟨rfl,hJx3⟩)
    ·gi_wp2
     go_roundw
     case rel=>exact ⟨1+1,hlt,by simp,by rw [rR];exact hJ3,hB1.trans hk3⟩
     case measure=>simp [intOf]
    ·gi_wp2
     refine bodyPost_ret (results_none rfl _ _ _) rfl ?_;exact ⟨⟨_,rfl⟩,.inr ⟨_,trivial,hJx3⟩⟩
   ·have Zj:J (upto 2 hk) (wr.alloc (.cells #[O e,O f] 32)):=hJ0 _ _ _ none hJs (World.grownBy_alloc _ _ none) (fun r e=>by cases e);have hB1:Below n₀ W (wr.alloc (.cells #[O e,O f] 32)):=hnx.alloc (ay hn₀ hnx.size) _;obtain ⟨fn,tmps,assign,body,hy,hR⟩:=hY _ ⟨2,hlt⟩ _ Zj (by rw [kU];exact hlt);have hy2:(Instr.yield l #[Value.int I 2,Value.agg #[Value.string e,Value.string f]]).run Tryz.prog (wr.alloc (.cells #[O e,O f] 32))=_:=hy;clear hy hY
    gi_wp2
    refine hR.mono ?_;rintro e W3 (⟨rfl,hJ3,hk3⟩|⟨rfl,hJx3⟩)
    ·gi_wp2
     go_roundw
     case rel=>exact ⟨2+1,hlt,by simp,by rw [rR];exact hJ3,hB1.trans hk3⟩
     case measure=>simp [intOf]
    ·gi_wp2
     refine bodyPost_ret (results_none rfl _ _ _) rfl ?_;exact ⟨⟨_,rfl⟩,.inr ⟨_,trivial,hJx3⟩⟩
  ·obtain rfl:k=3:=by omega
   clear hY
   gi_wp2
   go_end0
   exact ⟨⟨_,rfl⟩,.inl ⟨_,rfl,hJs⟩⟩
theorem CU (F:Fence) (n:Nat) (hf:F.fn 120) (hro:F.round=none) (t:iC) (w:World) :
  CallsIn F n Tryz.prog 120 #[t.v] w fun e w'=>e= ah (.func (.func 198) #[] #[aA (some ⟨w.heap.size,0,none⟩)])∧w'=w.alloc (.cells t.cells 34):=by
 obtain ⟨⟨a,b⟩,⟨c,d⟩,⟨e,f⟩⟩:=t;simp only [iC.v,iC.cells];refine callsIn_of_wp Tryz.func120 rfl hf ?_ hro;simp only [Tryz.ntmps120,List.size_toArray,bg,List.length_nil,Nat.reduceAdd,Nat.reduceSub,Array.replicate_succ,Array.replicate_zero,List.push_toArray,List.append_toArray,List.nil_append,dx]
 gi_wp2
 go_ret
 exact ⟨rfl,rfl⟩
theorem wO (F:Fence) (n:Nat) (hf:F.fn 198) (hro:F.round=none) (hn:1≤n) (Bs n₀:Nat) (t:iC) (w:World) (hn₀:n₀≤w.heap.size) (hx:aB w Bs t.cells 34) :
  SeqStopsK F n Tryz.prog 198 #[aA (some ⟨Bs,0,none⟩)] (enc t) (Below n₀) (fun ys=>ys=upto 3 (aC _)) (fun _=>True) 3 w:=fun l J Jx W hW hJ _ hY hJ0=>by
 obtain ⟨⟨a,b⟩,⟨c,d⟩,⟨e,f⟩⟩:=t;exact JU F n hf hro hn l Bs n₀ a b c d e f J Jx _ hJ hY W (ay hn₀ hW.size) (fun o=>(hx.later hW).cell o) hJ0
end Go.Proofs.light
namespace Go.Proofs.fM
open Go Go.RowKit Go.SW Go.Num Go.Mem Go.Proofs Go.Dec Go.gB
def q2 (n d:Int):Rat:=(n:Rat) / (d:Rat)
def sm (n d:Int):Bool:=decide (-1000000≤n)&&decide (n≤1000000)&&decide (1≤d)&&decide (d≤1000000)&&uQ (q2 n d)
def tq (x y z d:Int):light.iC:=⟨Fr.of (q2 x d),Fr.of (q2 y d),Fr.of (q2 z d)⟩
end Go.Proofs.fM
namespace Go.Proofs.light
open Go Go.RowKit Go.SW Go.Num Go.Mem Go.Proofs Go.Dec Go.gB
theorem pV (v:Value) (l:List Fr) (T:TypeId) (w:World) (h:Uz w T v l) :
  Calls Tryz.prog 119 #[v] w (fun e w'=>e= ah (Z I (rF l))∧Below w.heap.size w w'):=by
 obtain ⟨a,cap,rfl,hc1,hc2,hread⟩:=h.read;have H:=zh hread;clear h hread;go_enter Tryz.func119,Tryz.ntmps119
 go_wp2_with fail
 go_loopw [8] (fun iv wr=>∃ k:Nat,iv= Z I (k:Int)∧k≤l.length∧Hid (∀ j (h:j<l.length),j<k→(rd l[j]).isSome=true)∧Below w.heap.size w wr) (fun iv _=>l.length - (intOf iv).toNat)
 case atStart=>exact ⟨0,rfl,by omega,zh (fun j _ h=>by omega),Below.refl _ _⟩
 case round =>
  obtain ⟨k,rfl,hk,HK,hb⟩:=hrel
  rcases aR k l.length with hlt|hge
  ·obtain ⟨b,off,rfl,hbl,hx1,hx2⟩:=H.out k hlt;have hc1:=(hb.cell (p:=⟨b,off+k*2,none⟩) hbl).trans hx1;have hc2:=(hb.cell (p:=⟨b,off+k*2+1,none⟩) hbl).trans hx2;clear hx1 hx2;have hck:=fC.mO l[k];generalize hlk:l[k]=lk at *;obtain ⟨s,t⟩:=lk;cases hv:(rd ⟨s,t⟩).isSome with
   | true =>
    rw [KV hv] at hck;have HCK:Hid (∀ w,Calls Tryz.prog 166 #[au #[O s,O t]] w (fun e w'=>e= ah (Z I 0)∧Below w.heap.size w w')):=zh hck;have HLK:=zh hlk;have HV:=zh hv;clear hck hlk hv;go_wp2_with fail
    refine (HCK.out _).mono ?_;rintro e v1 ⟨rfl,hc1⟩;go_wp2_with fail
    go_roundw
    case rel =>
     refine ⟨k+1,by go_num,by omega,zh fun j hj hjk=>?_,Bt hb aJ⟩
     rcases aR j k with h|h
     ·exact HK.out j hj h
     ·obtain rfl:j=k:=by omega
      rw [HLK.out];exact HV.out
    case measure=>exact zM
   | false =>
    rw [WZ hv] at hck;have HCK:Hid (∀ w,Calls Tryz.prog 166 #[au #[O s,O t]] w (fun e w'=>e= ah (Z I 20)∧Below w.heap.size w w')):=zh hck
    have hno:rF l=20:=by
     unfold rF;rw [if_neg];intro h;have:=List.all_eq_true.1 h l[k] (fq _);rw [hlk,hv] at this;cases this
    have HNO:=zh hno;clear hck hlk hv hno;go_wp2_with fail
    refine (HCK.out _).mono ?_;rintro e v1 ⟨rfl,hc1⟩;go_wp2_with fail
    go_ret
    exact ⟨by rw [HNO.out];rfl,Bt hb aJ⟩
  ·have hyes:rF l=0:=by
    unfold rF;rw [if_pos];rw [eZ];intro x hx;obtain ⟨j,hj,rfl⟩:=List.getElem_of_mem hx;exact HK.out j hj zo
   have aq1:=zh hyes;clear hyes;obtain rfl:k=l.length:=by omega
   go_wp2_with fail
   go_ret
   exact ⟨by rw [aq1.out];rfl,hb⟩
end Go.Proofs.light
namespace Go.Proofs.light
open Go Go.RowKit Go.Shelf Go.SW Go.Num Go.Mem Go.Proofs Go.Dec Go.gB
attribute [local go_sem] Oper.semAt_some
theorem gY {W W':World} (h:Below W.heap.size W W'):KeepsOthers W W' :=
 ⟨h.size,fun k o hk _=>(h.block k (Array.getElem?_eq_some_iff.1 hk).1).trans hk⟩
theorem iH {W W':World} {row:Option Nat} {b:Nat} {cs:Array Value} {T:TypeId} (h:aB W b cs T) (hg:W.grownBy W' row) (hr:∀ r,row=some r→∃ o:Obj,W.heap[r]? =some o∧o.isCells=false):aB W' b cs T:=by
 unfold aB at *;rw [hg.block b (Array.getElem?_eq_some_iff.1 h).1 ?_]
 ·exact h
 ·intro e;obtain ⟨o,ho,hc⟩:=hr b e.symm;rw [h] at ho;cases ho
  cases hc
def pW (t:iC):Int:=if rF t.list=0 then (if t.list.all (fun f=>decide (0≤(iK f).1)) then 0 else 2) else 20
theorem iC.frs {w:World} {b:Nat} {t:iC} {T:TypeId} (h:aB w b t.cells T):Uz w T (aj (some ⟨b,0,none⟩) 3 3) t.list:=by
 refine ⟨some ⟨b,0,none⟩,3,rfl,aC _,by omega,(fun h=>by cases h),fun ad h'=>?_⟩;cases h'
 refine ⟨rfl,t.cells,h,fun i hi=>?_⟩;have:i<3:=hi;have hc:i=0∨i=1∨i=2:=by omega
 rcases hc with rfl|rfl|rfl<;>exact ⟨rfl,rfl⟩
theorem iT (t:iC) (w:World):Calls Tryz.prog 42 #[t.v] w fun e w'=>e= ah (Z I (pW t))∧Below w.heap.size w w':=by
 have HFR:Hid (∀ W b,aB W b t.cells 34→Calls Tryz.prog 119 #[aj (some ⟨b,0,none⟩) 3 3] W (fun e w'=>e= ah (Z I (rF t.list))∧Below W.heap.size W w')):=zh fun W b h=>pV (aj (some ⟨b,0,none⟩) 3 3) t.list 34 W (iC.frs h);have HNU:Hid (∀ w,CallsIn Fence.wide 2 Tryz.prog 120 #[t.v] w fun e w'=>e= ah (.func (.func 198) #[] #[aA (some ⟨w.heap.size,0,none⟩)])∧w'=w.alloc (.cells t.cells 34)):=zh (CU Fence.wide 2 trivial rfl t);have Ov:Hid (∀ x:Fin 3,∀ w,Calls Tryz.prog 104 #[(t.get x.1).v] w (fun e w'=>e= ah (fC.pair (iK (t.get x.1)))∧Below w.heap.size w w')):=zh fun x=>fC.nV _;unfold pW;generalize Sn:rF t.list=ck at *;have hck:ck=0∨ck=20:=by rw [← Sn];unfold rF;split<;>simp
 obtain ⟨z,Ez⟩:∃ y:Int,Hid ((if t.list.all (fun f=>decide (0≤(iK f).1)) then 0 else 2)=y):=⟨_,zh rfl⟩;rw [Ez.out];refine (callsIn_wide (n:=3)).1 ?_;refine callsIn_of_wp_marks Tryz.func42 rfl trivial ?_ rfl;simp only [Tryz.ntmps42,List.size_toArray,bg,List.length_nil,Nat.reduceAdd,Nat.reduceSub,Array.replicate_succ,Array.replicate_zero,List.push_toArray,List.append_toArray,List.nil_append,dx];obtain ⟨⟨a,b⟩,⟨c,d⟩,⟨e,f⟩⟩:=t;simp only [iC.v,iC.cells] at *;obtain ⟨wa,UA⟩:∃ y:World,Hid ((w.alloc (.cells #[O a,O b,O c,O d,O e,O f] 34)).alloc (.cells #[Z I 0] 43)=y):=⟨_,zh rfl⟩;have hba:aB wa w.heap.size #[O a,O b,O c,O d,O e,O f] 34:=by rw [← UA.out];exact bI
 have hbr:aB wa (w.heap.size+1) #[Z I 0] 43:=by rw [← UA.out];exact bI
 have hB1:Below w.heap.size w wa:=by rw [← UA.out];exact aJ
 have HBA:=zh hba;have Qm:=zh hbr;have HB1:=zh hB1;clear hba hbr hB1
 rcases hck with rfl|rfl
 ·rw [if_pos rfl];clear Sn
  gi_wp2_with (refine ⟨trivial,?_⟩;gi_at_call 119;rw [UA.out];refine (callsIn_wide.2 (HFR.out _ _ HBA.out)).mono ?_;rintro e w1 ⟨rfl,hc1⟩;have hb0:=HBA.out.later hc1;have c0:=hb0.cell;have hb1:=Qm.out.later hc1;have c1:=hb1.cell;have f1:=hb1.free)
  gi_wp2_with (refine ⟨trivial,?_⟩;gi_at_call 120;refine (HNU.out _).mono ?_;rintro e w' ⟨rfl,rfl⟩)
  have hB2:Below w.heap.size w w1:=HB1.out.trans (hc1.mono HB1.out.size);obtain ⟨w2,Ew2⟩:∃ y:World,Hid (w1.alloc (.cells #[O a,O b,O c,O d,O e,O f] 34)=y):=⟨_,zh rfl⟩;rw [Ew2.out];have hbx:aB w2 w1.heap.size #[O a,O b,O c,O d,O e,O f] 34:=by rw [← Ew2.out];exact bI
  have hb1':aB w2 (w.heap.size+1) #[Z I 0] 43:=by rw [← Ew2.out];exact bI
  have hB0:Below w.heap.size w w2:=by rw [← Ew2.out];exact hB2.alloc hB2.size _
  refine wpIn_rangeFunc_ownH (α:=Fin 3) rfl zo (gf:=198) (lb:=#[aA (some ⟨w1.heap.size,0,none⟩)]) rfl trivial (enters_of Tryz.func198 zk rfl)
   (wO Fence.wide 2 trivial rfl zo w1.heap.size w.heap.size ⟨⟨a,b⟩,⟨c,d⟩,⟨e,f⟩⟩ w2 hB0.size hbx) belowK_t (belowK_b hB0.size) (Below.refl _ _) (fun _=>rfl)
   (fun pre W=>(Hid (∀ x∈pre,decide (0≤(iK (iC.get ⟨⟨a,b⟩,⟨c,d⟩,⟨e,f⟩⟩ x.1)).1)=true)∧aB W (w.heap.size+1) #[Z I 0] 43)∧Below w.heap.size w W)
   (fun c' pre W=>(c'= .ret∧Hid (∃ x:Fin 3,decide (0≤(iK (iC.get ⟨⟨a,b⟩,⟨c,d⟩,⟨e,f⟩⟩ x.1)).1)=false)∧aB W (w.heap.size+1) #[Z I 2] 43)∧Below w.heap.size w W)
   (OwnFrom.and (Own.from (fun s A B row hs hg hr=>⟨hs.1,iH hs.2 hg hr⟩) _) (ownFrom_below (aC _) hB0.size))
   (fun c=>OwnFrom.and (Own.from (fun s A B row hs hg hr=>⟨hs.1,hs.2.1,iH hs.2.2 hg hr⟩) _) (ownFrom_below (aC _) hB0.size))
   ⟨⟨zh zi,hb1'⟩,hB0⟩ (fun x a' W=>∃ u15 u16 B,a'={ tmps:=#[Value.agg #[Value.string a,Value.string b,Value.string c,Value.string d,Value.string e,Value.string f],
        Value.pointer (some { block:=w.heap.size,off:=0 }),
        Value.pointer (some { block:=w.heap.size+1,off:=0 }),Value.int I 0,undef,aA (some ⟨B,0,none⟩),
        undef,undef,Value.slice (some { block:=w.heap.size,off:=0 }) 3 3,Value.int I 0,
        Value.int I 0,Value.bool false,undef,
        Value.agg
         #[Value.string a,Value.string b,Value.string c,Value.string d,Value.string e,Value.string f],
        .func (.func 198) #[] #[aA (some ⟨w1.heap.size,0,none⟩)],u15,u16,undef,undef,undef,undef,undef,undef,undef],defers:=[] }∧aB W B #[O (iC.get ⟨⟨a,b⟩,⟨c,d⟩,⟨e,f⟩⟩ x.1).n,O (iC.get ⟨⟨a,b⟩,⟨c,d⟩,⟨e,f⟩⟩ x.1).d] 32) ?hAx ?assign ?body ?done ?stop
  case hAx =>
   intro x a'
   exact Own.from (fun s A B row hs hg hr=>by
    obtain ⟨u1,u2,B',h1,h2⟩:=hs;exact ⟨u1,u2,B',h1,iH h2 hg hr⟩) _
  case assign =>
   intro l pre x W K hI hK;unfold enc Fr.v
   gi_wp2
   exact hK _ _ ((gY aJ).from _) ((Below.refl _ W).alloc hI.2.size _) ⟨⟨hI.1.1,hI.1.2.later aJ⟩,hI.2.alloc hI.2.size _⟩ ⟨_,_,_,rfl,bI⟩
  case body =>
   rintro l pre x a' W hl hr ⟨⟨hp,hb2⟩,hB⟩ ⟨u1,u2,B',rfl,Uw⟩ _;have hsx:=Ov.out x;obtain ⟨y,Ey⟩:∃ y:Fr,Hid (iC.get ⟨⟨a,b⟩,⟨c,d⟩,⟨e,f⟩⟩ x.1=y):=⟨_,zh rfl⟩;rw [Ey.out] at Uw hsx;obtain ⟨s,t⟩:=y;obtain ⟨q,Eq⟩:∃ q:Int × Int,Hid (iK ⟨s,t⟩=q):=⟨_,zh rfl⟩;rw [Eq.out] at hsx;obtain ⟨q1,q2⟩:=q;unfold fC.pair Fr.v at hsx
   dsimp only at hsx Uw
   have HSX:=zh hsx;clear hsx;have c3:=Uw.cell
   by_cases hq:q1<0
   ·have HQ:=zh hq;have b1:decide (q1<0)=true:=decide_eq_true hq;clear hq
    gi_wp2_with (refine ⟨trivial,?_⟩;gi_at_call 104;refine (CallsIn.inRound l (callsIn_wide.2 (HSX.out _))).mono ?_;rintro e w1 ⟨rfl,hc1⟩;have hb3:=hb2.later hc1;have c2:=hb3.cell;have f2:=hb3.free)
    refine ⟨(((gY hc1).trans (KeepsOthers.setCell _ _ _)).from _),⟨⟨rfl,zh ⟨x,?_⟩,hb3.set 0 _⟩,(hB.trans (hc1.mono hB.size)).setCell zi _⟩⟩;rw [Ey.out,Eq.out]
    simpa using HQ.out
   ·have HQ:=zh hq;have b1:decide (q1<0)=false:=decide_eq_false hq;clear hq
    gi_wp2_with (refine ⟨trivial,?_⟩;gi_at_call 104;refine (CallsIn.inRound l (callsIn_wide.2 (HSX.out _))).mono ?_;rintro e w1 ⟨rfl,hc1⟩;have hb3:=hb2.later hc1)
    refine ⟨(gY hc1).from _,hc1.mono hB.size,⟨⟨zh fun y hy=>?_,hb3⟩,hB.trans (hc1.mono hB.size)⟩⟩
    rcases List.mem_append.1 hy with h|h
    ·exact hp.out y h
    ·rw [List.mem_singleton] at h;subst h;rw [Ey.out,Eq.out];have:=HQ.out;simp
     omega
  case done =>
   rintro D ys W hD rfl ⟨⟨hp,hb1⟩,hB⟩ hK;have c1:=hb1.cell;have f1:=hb1.free
   have hz:z=0:=by
    rw [← Ez.out,if_pos];rw [eZ];intro r hr;have h0:=hp.out ⟨0,by omega⟩ (by unfold upto;rw [List.mem_ofFn];exact ⟨⟨0,by omega⟩,rfl⟩);have h1:=hp.out ⟨1,by omega⟩ (by unfold upto;rw [List.mem_ofFn];exact ⟨⟨1,by omega⟩,rfl⟩);have h2:=hp.out ⟨2,by omega⟩ (by unfold upto;rw [List.mem_ofFn];exact ⟨⟨2,by omega⟩,rfl⟩);simp only [iC.list,dR,jP,or_false] at hr
    rcases hr with rfl|rfl|rfl
    ·exact h0
    ·exact h1
    ·exact h2
   have HZ:=zh hz;clear hz
   gi_wp2
   have hb2:=hb1.set 0 (Z I 0);have hK':=(KeepsOthers.setCell W ⟨w.heap.size+1,0,none⟩ (Z I 0)).same D _ hK rfl;refine ⟨by simp,.inl ⟨_,_,rfl,run_takeDeferred hK',?_⟩⟩;have hb3:=iH hb2 (grownBy_putObj' _ D (.deferred none)) (fun r e=>by cases e;exact ⟨_,hK',rfl⟩);have pQ:=hb3.cell 0;refine ⟨Z I 0,?_,by rw [HZ.out],(hB.setCell (p:=⟨w.heap.size+1,0,none⟩) zi _).trans (belowK_b (w:=w) (aC _) _ D _ _ (by have:=hB0.size;omega) hK' rfl rfl)⟩;simp [results,Tryz.f42,go_sem,pQ]
  case stop =>
   rintro D c' pre W hD hpre ⟨⟨rfl,hin,hb1⟩,hB⟩ hK
   have hz:z=2:=by
    rw [← Ez.out,if_neg];intro h;obtain ⟨x,hx⟩:=hin.out;rw [eZ] at h;have hx3:x.1=0∨x.1=1∨x.1=2:=by omega
    have:=h (iC.get ⟨⟨a,b⟩,⟨c,d⟩,⟨e,f⟩⟩ x.1) (by rcases hx3 with e|e|e<;>rw [e]<;>simp [iC.list,iC.get]);rw [this] at hx;cases hx
   have HZ:=zh hz;clear hz
   gi_wp2
   refine ⟨by simp,.inl ⟨_,_,rfl,run_takeDeferred hK,?_⟩⟩;have hb3:=iH hb1 (grownBy_putObj' _ D (.deferred none)) (fun r e=>by cases e;exact ⟨_,hK,rfl⟩);have pQ:=hb3.cell 0;refine ⟨Z I 2,?_,by rw [HZ.out],hB.trans (belowK_b (w:=w) (aC _) W D _ _ (by have:=hB0.size;omega) hK rfl rfl)⟩;simp [results,Tryz.f42,go_sem,pQ]
 ·rw [if_neg zd];clear Sn
  gi_wp2_with (refine ⟨trivial,?_⟩;gi_at_call 119;rw [UA.out];refine (callsIn_wide.2 (HFR.out _ _ HBA.out)).mono ?_;rintro e w1 ⟨rfl,hc1⟩;have hb0:=HBA.out.later hc1;have c0:=hb0.cell;have hb1:=Qm.out.later hc1;have c1:=hb1.cell;have f1:=hb1.free)
  have c5:=(hb1.set 0 (Z I 20)).cell 0;refine ⟨Z I 20,?_,rfl,(HB1.out.trans (hc1.mono HB1.out.size)).setCell zi _⟩;simp [results,Tryz.f42,go_sem,c5]
attribute [local go_sem] Oper.semAt_some
def mF (t:iC):Int:=if pW t=0 then (if t.list.all (fun f=>decide ((iK f).1≠0)) then 0 else 2) else pW t
theorem oU (t:iC) (w:World):Calls Tryz.prog 43 #[t.v] w fun e w'=>e= ah (Z I (mF t))∧Below w.heap.size w w':=by
 have HFR:Hid (∀ W,Calls Tryz.prog 42 #[t.v] W (fun e w'=>e= ah (Z I (pW t))∧Below W.heap.size W w')):=zh fun W=>iT t W;have HNU:Hid (∀ w,CallsIn Fence.wide 2 Tryz.prog 120 #[t.v] w fun e w'=>e= ah (.func (.func 198) #[] #[aA (some ⟨w.heap.size,0,none⟩)])∧w'=w.alloc (.cells t.cells 34)):=zh (CU Fence.wide 2 trivial rfl t);have Ov:Hid (∀ x:Fin 3,∀ w,Calls Tryz.prog 104 #[(t.get x.1).v] w (fun e w'=>e= ah (fC.pair (iK (t.get x.1)))∧Below w.heap.size w w')):=zh fun x=>fC.nV _;unfold mF;generalize Sn:pW t=ck at *;have hck:ck=0∨ck≠0:=by omega
 obtain ⟨z,Ez⟩:∃ y:Int,Hid ((if t.list.all (fun f=>decide ((iK f).1≠0)) then 0 else 2)=y):=⟨_,zh rfl⟩;rw [Ez.out];refine (callsIn_wide (n:=3)).1 ?_;refine callsIn_of_wp_marks Tryz.func43 rfl trivial ?_ rfl;simp only [Tryz.ntmps43,List.size_toArray,bg,List.length_nil,Nat.reduceAdd,Nat.reduceSub,Array.replicate_succ,Array.replicate_zero,List.push_toArray,List.append_toArray,List.nil_append,dx];obtain ⟨⟨a,b⟩,⟨c,d⟩,⟨e,f⟩⟩:=t;simp only [iC.v,iC.cells] at *;obtain ⟨wa,UA⟩:∃ y:World,Hid ((w.alloc (.cells #[O a,O b,O c,O d,O e,O f] 34)).alloc (.cells #[Z I 0] 43)=y):=⟨_,zh rfl⟩;have hba:aB wa w.heap.size #[O a,O b,O c,O d,O e,O f] 34:=by rw [← UA.out];exact bI
 have hbr:aB wa (w.heap.size+1) #[Z I 0] 43:=by rw [← UA.out];exact bI
 have hB1:Below w.heap.size w wa:=by rw [← UA.out];exact aJ
 have HBA:=zh hba;have c00:=hba.cell;rw [← UA.out] at c00;have Qm:=zh hbr;have HB1:=zh hB1;clear hba hbr hB1
 rcases hck with rfl|hck
 ·rw [if_pos rfl];clear Sn
  gi_wp2_with (refine ⟨trivial,?_⟩;gi_at_call 42;rw [UA.out];refine (callsIn_wide.2 (HFR.out _)).mono ?_;rintro e w1 ⟨rfl,hc1⟩;have hb0:=HBA.out.later hc1;have c0:=hb0.cell;have hb1:=Qm.out.later hc1;have c1:=hb1.cell;have f1:=hb1.free)
  gi_wp2_with (refine ⟨trivial,?_⟩;gi_at_call 120;refine (HNU.out _).mono ?_;rintro e w' ⟨rfl,rfl⟩)
  have hB2:Below w.heap.size w w1:=HB1.out.trans (hc1.mono HB1.out.size);obtain ⟨w2,Ew2⟩:∃ y:World,Hid (w1.alloc (.cells #[O a,O b,O c,O d,O e,O f] 34)=y):=⟨_,zh rfl⟩;rw [Ew2.out];have hbx:aB w2 w1.heap.size #[O a,O b,O c,O d,O e,O f] 34:=by rw [← Ew2.out];exact bI
  have hb1':aB w2 (w.heap.size+1) #[Z I 0] 43:=by rw [← Ew2.out];exact bI
  have hB0:Below w.heap.size w w2:=by rw [← Ew2.out];exact hB2.alloc hB2.size _
  refine wpIn_rangeFunc_ownH (α:=Fin 3) rfl zo (gf:=198) (lb:=#[aA (some ⟨w1.heap.size,0,none⟩)]) rfl trivial (enters_of Tryz.func198 zk rfl)
   (wO Fence.wide 2 trivial rfl zo w1.heap.size w.heap.size ⟨⟨a,b⟩,⟨c,d⟩,⟨e,f⟩⟩ w2 hB0.size hbx) belowK_t (belowK_b hB0.size) (Below.refl _ _) (fun _=>rfl)
   (fun pre W=>(Hid (∀ x∈pre,decide ((iK (iC.get ⟨⟨a,b⟩,⟨c,d⟩,⟨e,f⟩⟩ x.1)).1≠0)=true)∧aB W (w.heap.size+1) #[Z I 0] 43)∧Below w.heap.size w W)
   (fun c' pre W=>(c'= .ret∧Hid (∃ x:Fin 3,decide ((iK (iC.get ⟨⟨a,b⟩,⟨c,d⟩,⟨e,f⟩⟩ x.1)).1≠0)=false)∧aB W (w.heap.size+1) #[Z I 2] 43)∧Below w.heap.size w W)
   (OwnFrom.and (Own.from (fun s A B row hs hg hr=>⟨hs.1,iH hs.2 hg hr⟩) _) (ownFrom_below (aC _) hB0.size))
   (fun c=>OwnFrom.and (Own.from (fun s A B row hs hg hr=>⟨hs.1,hs.2.1,iH hs.2.2 hg hr⟩) _) (ownFrom_below (aC _) hB0.size))
   ⟨⟨zh zi,hb1'⟩,hB0⟩ (fun x a' W=>∃ u15 u16 B,a'={ tmps:=#[Value.agg #[Value.string a,Value.string b,Value.string c,Value.string d,Value.string e,Value.string f],
        Value.pointer (some { block:=w.heap.size,off:=0 }),
        Value.pointer (some { block:=w.heap.size+1,off:=0 }),Value.int I 0,undef,aA (some ⟨B,0,none⟩),
        undef,undef,Value.agg #[Value.string a,Value.string b,Value.string c,Value.string d,Value.string e,Value.string f],Value.int I 0,
        Value.int I 0,Value.bool false,undef,
        Value.agg
         #[Value.string a,Value.string b,Value.string c,Value.string d,Value.string e,Value.string f],
        .func (.func 198) #[] #[aA (some ⟨w1.heap.size,0,none⟩)],u15,u16,undef,undef,undef,undef,undef,undef,undef],defers:=[] }∧aB W B #[O (iC.get ⟨⟨a,b⟩,⟨c,d⟩,⟨e,f⟩⟩ x.1).n,O (iC.get ⟨⟨a,b⟩,⟨c,d⟩,⟨e,f⟩⟩ x.1).d] 32) ?hAx ?assign ?body ?done ?stop
  case hAx =>
   intro x a'
   exact Own.from (fun s A B row hs hg hr=>by
    obtain ⟨u1,u2,B',h1,h2⟩:=hs;exact ⟨u1,u2,B',h1,iH h2 hg hr⟩) _
  case assign =>
   intro l pre x W K hI hK;unfold enc Fr.v
   gi_wp2
   exact hK _ _ ((gY aJ).from _) ((Below.refl _ W).alloc hI.2.size _) ⟨⟨hI.1.1,hI.1.2.later aJ⟩,hI.2.alloc hI.2.size _⟩ ⟨_,_,_,rfl,bI⟩
  case body =>
   rintro l pre x a' W hl hr ⟨⟨hp,hb2⟩,hB⟩ ⟨u1,u2,B',rfl,Uw⟩ _;have hsx:=Ov.out x;obtain ⟨y,Ey⟩:∃ y:Fr,Hid (iC.get ⟨⟨a,b⟩,⟨c,d⟩,⟨e,f⟩⟩ x.1=y):=⟨_,zh rfl⟩;rw [Ey.out] at Uw hsx;obtain ⟨s,t⟩:=y;obtain ⟨q,Eq⟩:∃ q:Int × Int,Hid (iK ⟨s,t⟩=q):=⟨_,zh rfl⟩;rw [Eq.out] at hsx;obtain ⟨q1,q2⟩:=q;unfold fC.pair Fr.v at hsx
   dsimp only at hsx Uw
   have HSX:=zh hsx;clear hsx;have c3:=Uw.cell
   by_cases hq:q1=0
   ·have HQ:=zh hq;have b1:(q1 == 0)=true:=by simpa using hq
    clear hq
    gi_wp2_with (refine ⟨trivial,?_⟩;gi_at_call 104;refine (CallsIn.inRound l (callsIn_wide.2 (HSX.out _))).mono ?_;rintro e w1 ⟨rfl,hc1⟩;have hb3:=hb2.later hc1;have c2:=hb3.cell;have f2:=hb3.free)
    refine ⟨(((gY hc1).trans (KeepsOthers.setCell _ _ _)).from _),⟨⟨rfl,zh ⟨x,?_⟩,hb3.set 0 _⟩,(hB.trans (hc1.mono hB.size)).setCell zi _⟩⟩;rw [Ey.out,Eq.out]
    simpa using HQ.out
   ·have HQ:=zh hq;have b1:(q1 == 0)=false:=by simpa using hq
    clear hq
    gi_wp2_with (refine ⟨trivial,?_⟩;gi_at_call 104;refine (CallsIn.inRound l (callsIn_wide.2 (HSX.out _))).mono ?_;rintro e w1 ⟨rfl,hc1⟩;have hb3:=hb2.later hc1)
    refine ⟨(gY hc1).from _,hc1.mono hB.size,⟨⟨zh fun y hy=>?_,hb3⟩,hB.trans (hc1.mono hB.size)⟩⟩
    rcases List.mem_append.1 hy with h|h
    ·exact hp.out y h
    ·rw [List.mem_singleton] at h;subst h;rw [Ey.out,Eq.out]
     simpa using HQ.out
  case done =>
   rintro D ys W hD rfl ⟨⟨hp,hb1⟩,hB⟩ hK;have c1:=hb1.cell;have f1:=hb1.free
   have hz:z=0:=by
    rw [← Ez.out,if_pos];rw [eZ];intro r hr;have h0:=hp.out ⟨0,by omega⟩ (by unfold upto;rw [List.mem_ofFn];exact ⟨⟨0,by omega⟩,rfl⟩);have h1:=hp.out ⟨1,by omega⟩ (by unfold upto;rw [List.mem_ofFn];exact ⟨⟨1,by omega⟩,rfl⟩);have h2:=hp.out ⟨2,by omega⟩ (by unfold upto;rw [List.mem_ofFn];exact ⟨⟨2,by omega⟩,rfl⟩);simp only [iC.list,dR,jP,or_false] at hr
    rcases hr with rfl|rfl|rfl
    ·exact h0
    ·exact h1
    ·exact h2
   have HZ:=zh hz;clear hz
   gi_wp2
   have hb2:=hb1.set 0 (Z I 0);have hK':=(KeepsOthers.setCell W ⟨w.heap.size+1,0,none⟩ (Z I 0)).same D _ hK rfl;refine ⟨by simp,.inl ⟨_,_,rfl,run_takeDeferred hK',?_⟩⟩;have hb3:=iH hb2 (grownBy_putObj' _ D (.deferred none)) (fun r e=>by cases e;exact ⟨_,hK',rfl⟩);have pQ:=hb3.cell 0;refine ⟨Z I 0,?_,by rw [HZ.out],(hB.setCell (p:=⟨w.heap.size+1,0,none⟩) zi _).trans (belowK_b (w:=w) (aC _) _ D _ _ (by have:=hB0.size;omega) hK' rfl rfl)⟩;simp [results,Tryz.f43,go_sem,pQ]
  case stop =>
   rintro D c' pre W hD hpre ⟨⟨rfl,hin,hb1⟩,hB⟩ hK
   have hz:z=2:=by
    rw [← Ez.out,if_neg];intro h;obtain ⟨x,hx⟩:=hin.out;rw [eZ] at h;have hx3:x.1=0∨x.1=1∨x.1=2:=by omega
    have:=h (iC.get ⟨⟨a,b⟩,⟨c,d⟩,⟨e,f⟩⟩ x.1) (by rcases hx3 with e|e|e<;>rw [e]<;>simp [iC.list,iC.get]);rw [this] at hx;cases hx
   have HZ:=zh hz;clear hz
   gi_wp2
   refine ⟨by simp,.inl ⟨_,_,rfl,run_takeDeferred hK,?_⟩⟩;have hb3:=iH hb1 (grownBy_putObj' _ D (.deferred none)) (fun r e=>by cases e;exact ⟨_,hK,rfl⟩);have pQ:=hb3.cell 0;refine ⟨Z I 2,?_,by rw [HZ.out],hB.trans (belowK_b (w:=w) (aC _) W D _ _ (by have:=hB0.size;omega) hK rfl rfl)⟩;simp [results,Tryz.f43,go_sem,pQ]
 ·rw [if_neg hck];have b5:(ck != 0)=true:=by simpa using hck
  clear Sn
  gi_wp2_with (refine ⟨trivial,?_⟩;gi_at_call 42;rw [UA.out];refine (callsIn_wide.2 (HFR.out _)).mono ?_;rintro e w1 ⟨rfl,hc1⟩;have hb0:=HBA.out.later hc1;have c0:=hb0.cell;have hb1:=Qm.out.later hc1;have c1:=hb1.cell;have f1:=hb1.free)
  have c5:=(hb1.set 0 (Z I ck)).cell 0;refine ⟨Z I ck,?_,rfl,(HB1.out.trans (hc1.mono HB1.out.size)).setCell zi _⟩;simp [results,Tryz.f43,go_sem,c5]
end Go.Proofs.light
namespace Go.Proofs.verdigrislaw24
open Go.Proofs.fM Go Go.RowKit Go.SW Go.Num Go.Mem Go.Proofs Go.Dec Go.gB
theorem Az (n d:Int) (h:sm n d=true) (w:World) (ht:jN.Pow w) :
  Calls Tryz.prog 39 #[Z I n,Z I d] w (fun e w'=>e= ah (Fr.of (q2 n d)).v∧Below w.heap.size w w'):=by
 have h':=h;unfold sm at h';simp only [aG,decide_eq_true_eq] at h';obtain ⟨⟨⟨⟨h1,h2⟩,h3⟩,h4⟩,h5⟩:=h';have HO:=fun w' hb=>fC.mE n d zo zo zo zo w' (ht.later hb)
 have e1:Fr.res (nk n d)= aD #[(Fr.of (q2 n d)).v,Z I 0]:=by
  unfold nk;rw [if_neg zo]
  show Fr.res (gB.wr (q2 n d))=_
  unfold gB.wr;rw [if_pos h5];rfl
 rw [e1] at HO;have HOF:=zh HO;obtain ⟨⟨s,t⟩,E⟩:∃ y:Fr,Hid (Fr.of (q2 n d)=y):=⟨_,zh rfl⟩;rw [E.out] at HOF ⊢;unfold Fr.v at HOF ⊢;have h0:Below w.heap.size w (w.alloc (.cells #[O ⟨#[]⟩,O ⟨#[]⟩] 32)):=aJ;have hx:=aB.new w #[O ⟨#[]⟩,O ⟨#[]⟩] 32;clear HO h h1 h2 h3 h4 h5 e1 ht E;go_enter Tryz.func39,Tryz.ntmps39
 go_wp2_with fail
 refine (HOF.out _ h0).mono ?_;rintro e w1 ⟨rfl,hb1⟩;have hr:=hx.later hb1;have cr:=hr.cell;have fr:=hr.free;have lr:=hr.lt;go_wp2_with fail
 refine ig rfl rfl bI Tryz.underlying32 rfl zk ?_;exact ⟨rfl,aJ⟩
theorem af2 (x y z d:Int) (hx:sm x d=true) (hy:sm y d=true) (hz:sm z d=true) (w:World) (ht:jN.Pow w) :
  Calls Tryz.prog 38 #[Z I x,Z I y,Z I z,Z I d] w (fun e w'=>e= ah (tq x y z d).v∧Below w.heap.size w w'):=by
 have H1:=zh (fun w' (hb:Below w.heap.size w w')=>Az x d hx w' (ht.later hb));have H2:=zh (fun w' (hb:Below w.heap.size w w')=>Az y d hy w' (ht.later hb));have H3:=zh (fun w' (hb:Below w.heap.size w w')=>Az z d hz w' (ht.later hb));unfold tq;obtain ⟨⟨s1,s2⟩,E1⟩:∃ y:Fr,Hid (Fr.of (q2 x d)=y):=⟨_,zh rfl⟩;obtain ⟨⟨s3,s4⟩,E2⟩:∃ u:Fr,Hid (Fr.of (q2 y d)=u):=⟨_,zh rfl⟩;obtain ⟨⟨s5,s6⟩,E3⟩:∃ y:Fr,Hid (Fr.of (q2 z d)=y):=⟨_,zh rfl⟩;rw [E1.out,E2.out,E3.out];rw [E1.out] at H1;rw [E2.out] at H2;rw [E3.out] at H3;unfold Fr.v at H1 H2 H3;unfold light.iC.v light.iC.cells;have h0:Below w.heap.size w (w.alloc (.cells #[O ⟨#[]⟩,O ⟨#[]⟩,O ⟨#[]⟩,O ⟨#[]⟩,O ⟨#[]⟩,O ⟨#[]⟩] 34)):=aJ;have hb:=aB.new w #[O ⟨#[]⟩,O ⟨#[]⟩,O ⟨#[]⟩,O ⟨#[]⟩,O ⟨#[]⟩,O ⟨#[]⟩] 34;clear hx hy hz ht E1 E2 E3;go_enter Tryz.func38,Tryz.ntmps38
 go_wp2_with fail
 refine (H1.out _ h0).mono ?_;rintro e w1 ⟨rfl,hb1⟩;have h1:=Bt h0 hb1;go_wp2_with fail
 refine (H2.out _ h1).mono ?_;rintro e w2 ⟨rfl,hb2⟩;have h2:=Bt h1 hb2;go_wp2_with fail
 refine (H3.out _ h2).mono ?_;rintro e w3 ⟨rfl,hb3⟩;have h3:=Bt h2 hb3;have hr:=((hb.later hb1).later hb2).later hb3;have cr:=hr.cell;have fr:=hr.free;have lr:=hr.lt;clear h0 h1 h2 hb1 hb2 hb3 hb H1 H2 H3;go_wp2_with fail
 refine ig rfl rfl ((((((hr.set 0 _).set 1 _).set 2 _).set 3 _).set 4 _).set 5 _) Tryz.underlying34 rfl zk ?_;exact ⟨rfl,(((((h3.setCell (aC _) _).setCell (aC _) _).setCell (aC _) _).setCell (aC _) _).setCell (aC _) _).setCell (aC _) _⟩
def MG (n d:Int):Int:=n*(1000000000000:Int).tdiv d
theorem Xm (n d:Int) (b:Nat) (hn: -1000≤n∧n≤1000) (hd:1≤d∧d≤1000) (w:World) (hb:aB w b #[Z I d] 3) :
  Calls Tryz.prog 61 #[Z I n,aA (some ⟨b,0,none⟩)] w (fun e w'=>e= ah (au #[Z I (MG n d),Z I (MG n d)])∧Below w.heap.size w w'):=by
 have q0:0≤(1000000000000:Int).tdiv d∧(1000000000000:Int).tdiv d≤1000000000000:=by
  rw [Int.tdiv_eq_ediv_of_nonneg zo]
  constructor
  ·exact Int.ediv_nonneg zo zo
  ·exact Int.ediv_le_self _ zo
 have hz:d≠0:=by omega
 have hz2:¬ d=0:=hz;have hz3:(d == 0)=false:=by simp [hz]
 unfold MG;obtain ⟨q,hq⟩:∃ q,(1000000000000:Int).tdiv d=q:=⟨_,rfl⟩;rw [hq] at q0 ⊢;have hw1:I.wrap q=q:=by rw [IntKind.wrap_i64];omega
 have hp: -1000000000000000≤n*q∧n*q≤1000000000000000:=by
  constructor
  ·have h1:=Int.mul_le_mul_of_nonneg_right hn.1 q0.1;omega
  ·have h1:=Int.mul_le_mul_of_nonneg_right hn.2 q0.1;omega
 have hw2:I.wrap (n*q)=n*q:=by rw [IntKind.wrap_i64];omega
 have XB:=zh hb;have HQ:=zh hq;clear hn hd q0 hp hb;go_enter Tryz.func61,Tryz.ntmps61
 have HB:=zh (Below.refl w.heap.size w);have cXB:=XB.out.cell;have lXB:=XB.out.lt;have fXB:=XB.out.free;go_wp2_with fail
 clear cXB lXB fXB;obtain ⟨w2,EW,hz,X1⟩:=zD w #[Z I 0,Z I 0] 40;rw [EW];clear EW;replace XB:=XB.bl hz;replace HB:=zh (Bt HB.out hz);clear hz;refine aO [(.pure,0),(.read,1),(.pure,2),(.pure,3),(.pure,4),(.read,5),(.pure,6),(.pure,7),(.pure,8),(.fin,9)] zk zk zR zP ?_;refine Wk.out ?_;have cXB:=XB.out.cell;have lXB:=XB.out.lt;have fXB:=XB.out.free;refine zS ?_;clear cXB lXB fXB;refine zH [_] rfl (fun u3 hbf=>?_);have hy:Below w2.heap.size w2 u3:=aJ;replace XB:=XB.bl hy;replace X1:=X1.bl hy;replace HB:=zh (Bt HB.out hy);clear hy hbf;have cXB:=XB.out.cell;have lXB:=XB.out.lt;have fXB:=XB.out.free;obtain ⟨nK,nI,oq⟩:=X1.clf;go_wp2_with fail
 clear cXB lXB fXB nK nI oq;have hr:=X1.out;have hb:=HB.out;refine ig rfl rfl bI Tryz.underlying40 rfl zk ?_;exact ⟨rfl,aJ⟩
theorem zl (x y z d:Int) (hx: -1000≤x∧x≤1000) (hy: -1000≤y∧y≤1000) (hz: -1000≤z∧z≤1000) (hd:1≤d∧d≤1000) (w:World) :
  Calls Tryz.prog 16 #[Z I x,Z I y,Z I z,Z I d] w (fun e w'=>e= ah (au #[Z I (MG x d),Z I (MG x d),Z I (MG y d),Z I (MG y d),Z I (MG z d),Z I (MG z d)])∧Below w.heap.size w w'):=by
 have H1:=zh (fun b W h=>Xm x d b hx hd W h);have H2:=zh (fun b W h=>Xm y d b hy hd W h);have H3:=zh (fun b W h=>Xm z d b hz hd W h);generalize MG x d=p at *;generalize MG y d=q at *;generalize MG z d=r at *;clear hx hy hz hd;go_enter Tryz.func16,Tryz.ntmps16
 have HB:=zh (Below.refl w.heap.size w);go_wp2_with fail
 obtain ⟨w3,EW,hz,X1,X2⟩:=Lf w #[Z I d] 3 #[Z I 0,Z I 0,Z I 0,Z I 0,Z I 0,Z I 0] 42;rw [EW];clear EW;replace HB:=zh (Bt HB.out hz);clear hz;refine (H1.out _ _ X1.out).mono ?_;rintro e u4 ⟨rfl,h⟩;replace X1:=X1.bl h;replace X2:=X2.bl h;replace HB:=zh (Bt HB.out h);clear h;obtain ⟨nK,nI,oq⟩:=X1.clf;obtain ⟨uE,uz,xW⟩:=X2.clf;go_wp2_with fail
 clear nK nI oq uE uz xW;refine (H2.out _ _ X1.out).mono ?_;rintro e u5 ⟨rfl,h⟩;replace X1:=X1.bl h;replace X2:=X2.bl h;replace HB:=zh (Bt HB.out h);clear h;obtain ⟨nK,nI,oq⟩:=X1.clf;obtain ⟨uE,uz,xW⟩:=X2.clf;go_wp2_with fail
 clear nK nI oq uE uz xW;refine (H3.out _ _ X1.out).mono ?_;rintro e u6 ⟨rfl,h⟩;replace X1:=X1.bl h;replace X2:=X2.bl h;replace HB:=zh (Bt HB.out h);clear h;obtain ⟨nK,nI,oq⟩:=X1.clf;obtain ⟨uE,uz,xW⟩:=X2.clf;go_wp2_with fail
 clear nK nI oq uE uz xW;have hr:=X2.out;have hb:=HB.out;refine ig rfl rfl bI Tryz.underlying42 rfl zk ?_;exact ⟨rfl,aJ⟩
end Go.Proofs.verdigrislaw24
