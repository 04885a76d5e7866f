/- Lemmas for the proof. No condition. -/
import Derived.Test.YtneajphgfdlmhaaGreatDoorRB01
import Derived.Test.YtneajphgfdlmhaaGreatDoorRB02
import Derived.Test.YtneajphgfdlmhaaGreatDoorRB03
import Derived.Test.YtneajphgfdlmhaaGreatDoorProg
import Derived.RangeFuncBox
import Derived.RangeFuncLeaves
import Derived.RangeFuncFrom
import Derived.RangeFuncNested
import Derived.RangeFuncBound
import Derived.RangeFuncCalls
import Derived.Shelf.Abstract
import Derived.WalkKit
import Derived.OwnWalkIn
import Derived.TacticsInMore
import Derived.LoopNIn
import Derived.LoopIn
import Derived.ChangeKeysEq
import Derived.KernelRfl
import Derived.Laws.ResultCell
import Derived.Laws.Rows
set_option linter.unusedVariables false
set_option linter.unusedSimpArgs false
set_option maxRecDepth 100000
set_option maxHeartbeats 16000000
namespace Go.Proofs.aQ
open Go Go.RowKit Go.SW Go.Num Go.Mem Go.Proofs Go.jQ
def Pf (a:Int × Int) (k:Nat):Int:=if k / 2=0 then a.1 else a.2
def MS (b:Int × Int) (k:Nat):Int:=if k%2=0 then b.1 else b.2
def zw (Q:Int→Int→Bool→Int × Bool) (a b:Int × Int) (k:Nat):Int × Bool:=Q (Pf a k) (MS b k) false
def zx (Q:Int→Int→Bool→Int × Bool) (a b:Int × Int) (k:Nat):Int × Bool:=Q (Pf a k) (MS b k) true
def aq3 (Q:Int→Int→Bool→Int × Bool) (a b:Int × Int):Bool:=(List.range 4).all fun k=>(zw Q a b k).2&&(zx Q a b k).2
def xH (Q:Int→Int→Bool→Int × Bool) (a b:Int × Int):(Int × Int) × Int:=if aq3 Q a b then jR ([(zw Q a b 0).1,(zw Q a b 1).1,(zw Q a b 2).1,(zw Q a b 3).1].foldl min (zw Q a b 0).1) ([(zx Q a b 0).1,(zx Q a b 1).1,(zx Q a b 2).1,(zx Q a b 3).1].foldl max (zx Q a b 0).1) else ((0,0),6)
def XM (f:Nat→Int × Bool) (k q:Nat):Int:=if q<k then (f q).1 else 0
def Ce (f:Nat→Int × Bool) (k:Nat):Array Value:=#[.int .i64 (XM f k 0),.int .i64 (XM f k 1),.int .i64 (XM f k 2),.int .i64 (XM f k 3)]
theorem ah.bp3 (w:World) (o o2 o3 o4:Obj) (cs:Array Value) (T:TypeId):ah (((((w.alloc o).alloc o2).alloc o3).alloc o4).alloc (.cells cs T (0,0))) (w.heap.size+1+1+1+1) cs T:=ah.Ng zi
theorem aJ2 (w:World) (c0:Array Value) (T0:TypeId) (c1:Array Value) (T1:TypeId) (c2:Array Value) (T2:TypeId) (c3:Array Value) (T3:TypeId) (c4:Array Value) (T4:TypeId):∃ y,((((w.alloc (.cells c0 T0 (0,0))).alloc (.cells c1 T1 (0,0))).alloc (.cells c2 T2 (0,0))).alloc (.cells c3 T3 (0,0))).alloc (.cells c4 T4 (0,0))=y∧Below w.heap.size w y∧Hid (ah y (w.heap.size) c0 T0)∧Hid (ah y (w.heap.size+1) c1 T1)∧Hid (ah y (w.heap.size+1+1) c2 T2)∧Hid (ah y (w.heap.size+1+1+1) c3 T3)∧Hid (ah y (w.heap.size+1+1+1+1) c4 T4):=⟨_,rfl,dA (dA (dA (dA (dA (Below.refl _ _) _) _) _) _) _,zh (ah.alloc (ah.alloc (ah.alloc (ah.alloc (ah.new _ _ _) _) _) _) _),zh (ah.alloc (ah.alloc (ah.alloc (ah.qN _ _ _ _) _) _) _),zh (ah.alloc (ah.alloc (ah.at2 _ _ _ _ _) _) _),zh (ah.alloc (ah.at3 _ _ _ _ _ _) _),zh (ah.bp3 _ _ _ _ _ _ _)⟩
structure Rn (Q:Int→Int→Bool→Int × Bool) (w0:World) (a b:Int × Int) (wr:World) (k:Nat):Prop where
 ba:ah wr w0.heap.size #[.int .i64 a.1,.int .i64 a.2] 40
 bb:ah wr (w0.heap.size+1) #[.int .i64 b.1,.int .i64 b.2] 40
 br:ah wr (w0.heap.size+1+1) #[.int .i64 0,.int .i64 0] 40
 bl:ah wr (w0.heap.size+1+1+1) (Ce (zw Q a b) k) 198
 bh:ah wr (w0.heap.size+1+1+1+1) (Ce (zx Q a b) k) 198
 bw:Below w0.heap.size w0 wr
 ok:∀ q,q<k→(zw Q a b q).2=true∧(zx Q a b q).2=true
theorem Rn.later {Q:Int→Int→Bool→Int × Bool} {w0 wr w':World} {a b:Int × Int} {k:Nat} (h:Rn Q w0 a b wr k) (hb:Below wr.heap.size wr w'):Rn Q w0 a b w' k :=
 ⟨h.ba.later hb,h.bb.later hb,h.br.later hb,h.bl.later hb,h.bh.later hb,Bt h.bw hb,h.ok⟩
theorem Qs (f:Nat→Int × Bool) {k:Nat} (hk:k<4):(Ce f k).setIfInBounds k (.int .i64 (f k).1)=Ce f (k+1):=by
 have:k=0∨k=1∨k=2∨k=3:=by omega
 rcases this with rfl|rfl|rfl|rfl<;>simp [Ce,XM]
theorem Rn.step {Q:Int→Int→Bool→Int × Bool} {w0 wr:World} {a b:Int × Int} {k:Nat} (h:Rn Q w0 a b wr k) (hk:k<4) (h1:(zw Q a b k).2=true) (h2:(zx Q a b k).2=true) :
  Rn Q w0 a b ((wr.setCell ⟨w0.heap.size+1+1+1,k,none⟩ (.int .i64 (zw Q a b k).1)).setCell ⟨w0.heap.size+1+1+1+1,k,none⟩ (.int .i64 (zx Q a b k).1)) (k+1) where
 ba:=ah.setOther (ah.setOther h.ba _ (by first|(simp;done)|(simp;omega))) _ (by first|(simp;done)|(simp;omega))
 bb:=ah.setOther (ah.setOther h.bb _ (by first|(simp;done)|(simp;omega))) _ (by first|(simp;done)|(simp;omega))
 br:=ah.setOther (ah.setOther h.br _ zi) _ (by first|(simp;done)|(simp;omega))
 bl:=by
  have:=ah.setOther (h.bl.set k (.int .i64 (zw Q a b k).1)) (a:=⟨w0.heap.size+1+1+1+1,k,none⟩) (.int .i64 (zx Q a b k).1) zi
  rwa [Qs _ hk] at this
 bh:=by
  have:=(ah.setOther h.bh (a:=⟨w0.heap.size+1+1+1,k,none⟩) (.int .i64 (zw Q a b k).1) zi).set k (.int .i64 (zx Q a b k).1)
  rwa [Qs _ hk] at this
 bw:=(h.bw.setCell (p:=⟨w0.heap.size+1+1+1,k,none⟩) (by simp;omega) _).setCell (p:=⟨w0.heap.size+1+1+1+1,k,none⟩) (by simp;omega) _
 ok:=fun q hq=>by
  rcases Nat.lt_or_ge q k with h'|h'
  ·exact h.ok q h'
  ·obtain rfl:q=k:=by omega
   exact ⟨h1,h2⟩
theorem VI (f:Nat→Int × Bool) (j:Nat) (h:j<[(f 0).1,(f 1).1,(f 2).1,(f 3).1].length):(Ce f 4)[j]? =some (.int .i64 [(f 0).1,(f 1).1,(f 2).1,(f 3).1][j]):=by
 have:j=0∨j=1∨j=2∨j=3:=by have:j<4:=h;omega
 rcases this with rfl|rfl|rfl|rfl<;>simp [Ce,XM]
theorem ak0 {Q:Int→Int→Bool→Int × Bool} {a b:Int × Int} {k:Nat} (hk:k<4) (h:(zw Q a b k).2=false∨(zx Q a b k).2=false):xH Q a b=((0,0),6):=by
 unfold xH;rw [if_neg];intro hf;unfold aq3 at hf;have:=List.all_eq_true.1 hf k (by simp [hk])
 rcases h with h|h<;>simp [h] at this
theorem yB (Q:Int→Int→Bool→Int × Bool) (F:FuncId) (fr:Array Value) (x y z t:Int) (w:World)
  (HC:∀ k up W,Below w.heap.size w W→Calls Tryz.prog F (#[.int .i64 (Pf (x,y) k),.int .i64 (MS (z,t) k),.bool up]++fr) W (fun e w'=>e= .returned (.tuple #[.int .i64 (Q (Pf (x,y) k) (MS (z,t) k) up).1,.bool (Q (Pf (x,y) k) (MS (z,t) k) up).2])∧Below W.heap.size W w'))
  (hen:∀ args W,(callFunc F args).run Tryz.prog W= .ok (.enter F args) W) :
  Calls Tryz.prog 100 #[.agg #[.int .i64 x,.int .i64 y],.agg #[.int .i64 z,.int .i64 t],.func (.func F) #[] fr] w (fun e w'=>e= .returned (gZ (xH Q (x,y) (z,t)))∧Below w.heap.size w w'):=by
 have HL:Hid (∀ k W,Below w.heap.size w W→Calls Tryz.prog F (#[.int .i64 (Pf (x,y) k),.int .i64 (MS (z,t) k),.bool false]++fr) W (fun e w'=>e= .returned (.tuple #[.int .i64 (zw Q (x,y) (z,t) k).1,.bool (zw Q (x,y) (z,t) k).2])∧Below W.heap.size W w')):=zh fun k W h=>HC k false W h;have HH:Hid (∀ k W,Below w.heap.size w W→Calls Tryz.prog F (#[.int .i64 (Pf (x,y) k),.int .i64 (MS (z,t) k),.bool true]++fr) W (fun e w'=>e= .returned (.tuple #[.int .i64 (zx Q (x,y) (z,t) k).1,.bool (zx Q (x,y) (z,t) k).2])∧Below W.heap.size W w')):=zh fun k W h=>HC k true W h;clear HC;have HN:=zh (fun k (hk:k<4) h=>ak0 (Q:=Q) (a:=(x,y)) (b:=(z,t)) (k:=k) hk h);obtain ⟨⟨⟨s1,s2⟩,s3⟩,es⟩:∃ s,xH Q (x,y) (z,t)=s:=⟨_,rfl⟩;rw [es];have HS:=zh es;unfold gZ;clear es;go_enter Tryz.func100,Tryz.ntmps100
 go_wp2_with fail
 go_step3
 go_wp2_with fail
 go_step3
 go_wp2_with fail
 obtain ⟨w0,EW,hb,X3,X4,X6,X8,X9⟩:=aJ2 w #[.int .i64 x,.int .i64 y] 40 #[.int .i64 z,.int .i64 t] 40 #[.int .i64 0,.int .i64 0] 40 #[.int .i64 0,.int .i64 0,.int .i64 0,.int .i64 0] 198 #[.int .i64 0,.int .i64 0,.int .i64 0,.int .i64 0] 198;rw [EW];clear EW;have HS0:Hid (Rn Q w (x,y) (z,t) w0 0):=zh ⟨X3.out,X4.out,X6.out,X8.out,X9.out,hb,fun q h=>absurd h zo⟩;clear X3 X4 X6 X8 X9 hb
 go_loopw [10,24] (fun fv iv wr=>∃ i:Int,fv= .bool true∧iv= .int .i64 i∧Hid ((i=0∧Rn Q w (x,y) (z,t) wr 0)∨(i=1∧Rn Q w (x,y) (z,t) wr 2)∨(i=2∧Rn Q w (x,y) (z,t) wr 4))) (fun _ iv _=>2 - (intOf iv).toNat)
 case atStart=>exact ⟨0,rfl,rfl,zh (.inl ⟨rfl,HS0.out⟩)⟩
 case round =>
  clear HS0;obtain ⟨i,rfl,rfl,HI⟩:=hrel
  rcases HI.out with ⟨rfl,hS⟩|⟨rfl,hS⟩|⟨rfl,hS⟩
  ·clear HI;have hix:∀ W,(Instr.index 199 (.agg #[.int .i64 x,.int .i64 y]) (.int .i64 0)).run Tryz.prog W= .ok (.int .i64 x) W:=fun W=>by kernel_rfl
   obtain ⟨c4,l4⟩:=(zh hS.bb).cl;have HS0:=zh hS;clear hS;go_wp2_with fail
   clear hix c4 l4
   go_loopw [10,33] (fun fv jv wr=>∃ j:Int,fv= .bool true∧jv= .int .i64 j∧Hid ((j=0∧Rn Q w (x,y) (z,t) wr 0)∨(j=1∧Rn Q w (x,y) (z,t) wr 1)∨(j=2∧Rn Q w (x,y) (z,t) wr 2))) (fun _ jv _=>2 - (intOf jv).toNat)
   case atStart=>exact ⟨0,rfl,rfl,zh (.inl ⟨rfl,HS0.out⟩)⟩
   case round =>
    clear HS0;obtain ⟨j,rfl,rfl,HJ⟩:=hrel
    rcases HJ.out with ⟨rfl,hS⟩|⟨rfl,hS⟩|⟨rfl,hS⟩
    ·clear HJ;obtain ⟨⟨l1,l2⟩,el⟩:∃ v,zw Q (x,y) (z,t) 0=v:=⟨_,rfl⟩;obtain ⟨⟨h1,h2⟩,eh⟩:∃ v,zx Q (x,y) (z,t) 0=v:=⟨_,rfl⟩;have UF:=zh (HL.out 0);have UG:=zh (HH.out 0);rw [el] at UF;rw [eh] at UG;have EL:=zh (And.intro el eh);have UE:=zh hS;clear el eh hS;have Tv:∀ W,(Instr.index 199 (.agg #[.int .i64 z,.int .i64 t]) (.int .i64 0)).run Tryz.prog W= .ok (.int .i64 z) W:=fun W=>by kernel_rfl
     go_wp2_with fail
     refine (UF.out _ UE.out.bw).mono ?_;rintro e w1 ⟨rfl,hb⟩;have UC:=zh (UE.out.later hb);clear hb Tv UF UE;go_wp2_with fail
     refine (UG.out _ UC.out.bw).mono ?_;rintro e w2 ⟨rfl,hb⟩;have qx:=zh (UC.out.later hb);clear hb UG UC;cases l2
     ·obtain ⟨rfl,rfl,rfl⟩:s1=0∧s2=0∧s3=6:=by have h:=HS.out;rw [HN.out 0 zo (by rw [EL.out.1];exact .inl rfl)] at h;cases h;exact ⟨rfl,rfl,rfl⟩
      obtain ⟨c6,l6,f6⟩:=(zh qx.out.br).clf;go_wp2_with fail
      rw [Exit.noGoto_ret];exact bodyPost_ret (v:=.tuple #[.agg #[.int .i64 0,.int .i64 0],.int .i64 6]) (by have h6:=((qx.out.br.set 0 (.int .i64 0)).set 1 (.int .i64 0)).cell;have Qd:=h6 0;have Qc:=h6 1;simp [results,Tryz.results100,go_sem,Qd,Qc]) rfl ⟨rfl,(qx.out.bw.setCell (p:=⟨w.heap.size+1+1,0,none⟩) (by simp;omega) _).setCell (p:=⟨w.heap.size+1+1,1,none⟩) (by simp;omega) _⟩
     ·cases h2
      ·obtain ⟨rfl,rfl,rfl⟩:s1=0∧s2=0∧s3=6:=by have h:=HS.out;rw [HN.out 0 zo (by rw [EL.out.2];exact .inr rfl)] at h;cases h;exact ⟨rfl,rfl,rfl⟩
       obtain ⟨c6,l6,f6⟩:=(zh qx.out.br).clf;go_wp2_with fail
       rw [Exit.noGoto_ret];exact bodyPost_ret (v:=.tuple #[.agg #[.int .i64 0,.int .i64 0],.int .i64 6]) (by have h6:=((qx.out.br.set 0 (.int .i64 0)).set 1 (.int .i64 0)).cell;have Qd:=h6 0;have Qc:=h6 1;simp [results,Tryz.results100,go_sem,Qd,Qc]) rfl ⟨rfl,(qx.out.bw.setCell (p:=⟨w.heap.size+1+1,0,none⟩) (by simp;omega) _).setCell (p:=⟨w.heap.size+1+1,1,none⟩) (by simp;omega) _⟩
      ·obtain ⟨c8,l8,f8⟩:=(zh qx.out.bl).clf;obtain ⟨c9,l9,f9⟩:=(zh qx.out.bh).clf;unfold Ce at c8 c9;have UA:=zh (qx.out.step (k:=0) zo (by rw [EL.out.1]) (by rw [EL.out.2]));rw [EL.out.1,EL.out.2] at UA;clear qx;go_wp2_with fail
       go_roundw
       case rel=>exact ⟨1,rfl,rfl,zh (.inr<| .inl ⟨rfl,UA.out⟩)⟩
       case measure=>simp [intOf]
    ·clear HJ;obtain ⟨⟨l1,l2⟩,el⟩:∃ v,zw Q (x,y) (z,t) 1=v:=⟨_,rfl⟩;obtain ⟨⟨h1,h2⟩,eh⟩:∃ v,zx Q (x,y) (z,t) 1=v:=⟨_,rfl⟩;have UF:=zh (HL.out 1);have UG:=zh (HH.out 1);rw [el] at UF;rw [eh] at UG;have EL:=zh (And.intro el eh);have UE:=zh hS;clear el eh hS;have Tv:∀ W,(Instr.index 199 (.agg #[.int .i64 z,.int .i64 t]) (.int .i64 1)).run Tryz.prog W= .ok (.int .i64 t) W:=fun W=>by kernel_rfl
     go_wp2_with fail
     refine (UF.out _ UE.out.bw).mono ?_;rintro e w1 ⟨rfl,hb⟩;have UC:=zh (UE.out.later hb);clear hb Tv UF UE;go_wp2_with fail
     refine (UG.out _ UC.out.bw).mono ?_;rintro e w2 ⟨rfl,hb⟩;have qx:=zh (UC.out.later hb);clear hb UG UC;cases l2
     ·obtain ⟨rfl,rfl,rfl⟩:s1=0∧s2=0∧s3=6:=by have h:=HS.out;rw [HN.out 1 zo (by rw [EL.out.1];exact .inl rfl)] at h;cases h;exact ⟨rfl,rfl,rfl⟩
      obtain ⟨c6,l6,f6⟩:=(zh qx.out.br).clf;go_wp2_with fail
      rw [Exit.noGoto_ret];exact bodyPost_ret (v:=.tuple #[.agg #[.int .i64 0,.int .i64 0],.int .i64 6]) (by have h6:=((qx.out.br.set 0 (.int .i64 0)).set 1 (.int .i64 0)).cell;have Qd:=h6 0;have Qc:=h6 1;simp [results,Tryz.results100,go_sem,Qd,Qc]) rfl ⟨rfl,(qx.out.bw.setCell (p:=⟨w.heap.size+1+1,0,none⟩) (by simp;omega) _).setCell (p:=⟨w.heap.size+1+1,1,none⟩) (by simp;omega) _⟩
     ·cases h2
      ·obtain ⟨rfl,rfl,rfl⟩:s1=0∧s2=0∧s3=6:=by have h:=HS.out;rw [HN.out 1 zo (by rw [EL.out.2];exact .inr rfl)] at h;cases h;exact ⟨rfl,rfl,rfl⟩
       obtain ⟨c6,l6,f6⟩:=(zh qx.out.br).clf;go_wp2_with fail
       rw [Exit.noGoto_ret];exact bodyPost_ret (v:=.tuple #[.agg #[.int .i64 0,.int .i64 0],.int .i64 6]) (by have h6:=((qx.out.br.set 0 (.int .i64 0)).set 1 (.int .i64 0)).cell;have Qd:=h6 0;have Qc:=h6 1;simp [results,Tryz.results100,go_sem,Qd,Qc]) rfl ⟨rfl,(qx.out.bw.setCell (p:=⟨w.heap.size+1+1,0,none⟩) (by simp;omega) _).setCell (p:=⟨w.heap.size+1+1,1,none⟩) (by simp;omega) _⟩
      ·obtain ⟨c8,l8,f8⟩:=(zh qx.out.bl).clf;obtain ⟨c9,l9,f9⟩:=(zh qx.out.bh).clf;unfold Ce at c8 c9;have UA:=zh (qx.out.step (k:=1) zo (by rw [EL.out.1]) (by rw [EL.out.2]));rw [EL.out.1,EL.out.2] at UA;clear qx;go_wp2_with fail
       go_roundw
       case rel=>exact ⟨2,rfl,rfl,zh (.inr<| .inr ⟨rfl,UA.out⟩)⟩
       case measure=>simp [intOf]
    ·have UA:=zh hS;clear hS HJ;go_wp2_with fail
     go_roundw
     case rel=>exact ⟨1,rfl,rfl,zh (.inr<| .inl ⟨rfl,UA.out⟩)⟩
     case measure=>simp [intOf]
  ·clear HI;have hix:∀ W,(Instr.index 199 (.agg #[.int .i64 x,.int .i64 y]) (.int .i64 1)).run Tryz.prog W= .ok (.int .i64 y) W:=fun W=>by kernel_rfl
   obtain ⟨c4,l4⟩:=(zh hS.bb).cl;have HS0:=zh hS;clear hS;go_wp2_with fail
   clear hix c4 l4
   go_loopw [10,33] (fun fv jv wr=>∃ j:Int,fv= .bool true∧jv= .int .i64 j∧Hid ((j=0∧Rn Q w (x,y) (z,t) wr 2)∨(j=1∧Rn Q w (x,y) (z,t) wr 3)∨(j=2∧Rn Q w (x,y) (z,t) wr 4))) (fun _ jv _=>2 - (intOf jv).toNat)
   case atStart=>exact ⟨0,rfl,rfl,zh (.inl ⟨rfl,HS0.out⟩)⟩
   case round =>
    clear HS0;obtain ⟨j,rfl,rfl,HJ⟩:=hrel
    rcases HJ.out with ⟨rfl,hS⟩|⟨rfl,hS⟩|⟨rfl,hS⟩
    ·clear HJ;obtain ⟨⟨l1,l2⟩,el⟩:∃ v,zw Q (x,y) (z,t) 2=v:=⟨_,rfl⟩;obtain ⟨⟨h1,h2⟩,eh⟩:∃ v,zx Q (x,y) (z,t) 2=v:=⟨_,rfl⟩;have UF:=zh (HL.out 2);have UG:=zh (HH.out 2);rw [el] at UF;rw [eh] at UG;have EL:=zh (And.intro el eh);have UE:=zh hS;clear el eh hS;have Tv:∀ W,(Instr.index 199 (.agg #[.int .i64 z,.int .i64 t]) (.int .i64 0)).run Tryz.prog W= .ok (.int .i64 z) W:=fun W=>by kernel_rfl
     go_wp2_with fail
     refine (UF.out _ UE.out.bw).mono ?_;rintro e w1 ⟨rfl,hb⟩;have UC:=zh (UE.out.later hb);clear hb Tv UF UE;go_wp2_with fail
     refine (UG.out _ UC.out.bw).mono ?_;rintro e w2 ⟨rfl,hb⟩;have qx:=zh (UC.out.later hb);clear hb UG UC;cases l2
     ·obtain ⟨rfl,rfl,rfl⟩:s1=0∧s2=0∧s3=6:=by have h:=HS.out;rw [HN.out 2 zo (by rw [EL.out.1];exact .inl rfl)] at h;cases h;exact ⟨rfl,rfl,rfl⟩
      obtain ⟨c6,l6,f6⟩:=(zh qx.out.br).clf;go_wp2_with fail
      rw [Exit.noGoto_ret];exact bodyPost_ret (v:=.tuple #[.agg #[.int .i64 0,.int .i64 0],.int .i64 6]) (by have h6:=((qx.out.br.set 0 (.int .i64 0)).set 1 (.int .i64 0)).cell;have Qd:=h6 0;have Qc:=h6 1;simp [results,Tryz.results100,go_sem,Qd,Qc]) rfl ⟨rfl,(qx.out.bw.setCell (p:=⟨w.heap.size+1+1,0,none⟩) (by simp;omega) _).setCell (p:=⟨w.heap.size+1+1,1,none⟩) (by simp;omega) _⟩
     ·cases h2
      ·obtain ⟨rfl,rfl,rfl⟩:s1=0∧s2=0∧s3=6:=by have h:=HS.out;rw [HN.out 2 zo (by rw [EL.out.2];exact .inr rfl)] at h;cases h;exact ⟨rfl,rfl,rfl⟩
       obtain ⟨c6,l6,f6⟩:=(zh qx.out.br).clf;go_wp2_with fail
       rw [Exit.noGoto_ret];exact bodyPost_ret (v:=.tuple #[.agg #[.int .i64 0,.int .i64 0],.int .i64 6]) (by have h6:=((qx.out.br.set 0 (.int .i64 0)).set 1 (.int .i64 0)).cell;have Qd:=h6 0;have Qc:=h6 1;simp [results,Tryz.results100,go_sem,Qd,Qc]) rfl ⟨rfl,(qx.out.bw.setCell (p:=⟨w.heap.size+1+1,0,none⟩) (by simp;omega) _).setCell (p:=⟨w.heap.size+1+1,1,none⟩) (by simp;omega) _⟩
      ·obtain ⟨c8,l8,f8⟩:=(zh qx.out.bl).clf;obtain ⟨c9,l9,f9⟩:=(zh qx.out.bh).clf;unfold Ce at c8 c9;have UA:=zh (qx.out.step (k:=2) zo (by rw [EL.out.1]) (by rw [EL.out.2]));rw [EL.out.1,EL.out.2] at UA;clear qx;go_wp2_with fail
       go_roundw
       case rel=>exact ⟨1,rfl,rfl,zh (.inr<| .inl ⟨rfl,UA.out⟩)⟩
       case measure=>simp [intOf]
    ·clear HJ;obtain ⟨⟨l1,l2⟩,el⟩:∃ v,zw Q (x,y) (z,t) 3=v:=⟨_,rfl⟩;obtain ⟨⟨h1,h2⟩,eh⟩:∃ v,zx Q (x,y) (z,t) 3=v:=⟨_,rfl⟩;have UF:=zh (HL.out 3);have UG:=zh (HH.out 3);rw [el] at UF;rw [eh] at UG;have EL:=zh (And.intro el eh);have UE:=zh hS;clear el eh hS;have Tv:∀ W,(Instr.index 199 (.agg #[.int .i64 z,.int .i64 t]) (.int .i64 1)).run Tryz.prog W= .ok (.int .i64 t) W:=fun W=>by kernel_rfl
     go_wp2_with fail
     refine (UF.out _ UE.out.bw).mono ?_;rintro e w1 ⟨rfl,hb⟩;have UC:=zh (UE.out.later hb);clear hb Tv UF UE;go_wp2_with fail
     refine (UG.out _ UC.out.bw).mono ?_;rintro e w2 ⟨rfl,hb⟩;have qx:=zh (UC.out.later hb);clear hb UG UC;cases l2
     ·obtain ⟨rfl,rfl,rfl⟩:s1=0∧s2=0∧s3=6:=by have h:=HS.out;rw [HN.out 3 zo (by rw [EL.out.1];exact .inl rfl)] at h;cases h;exact ⟨rfl,rfl,rfl⟩
      obtain ⟨c6,l6,f6⟩:=(zh qx.out.br).clf;go_wp2_with fail
      rw [Exit.noGoto_ret];exact bodyPost_ret (v:=.tuple #[.agg #[.int .i64 0,.int .i64 0],.int .i64 6]) (by have h6:=((qx.out.br.set 0 (.int .i64 0)).set 1 (.int .i64 0)).cell;have Qd:=h6 0;have Qc:=h6 1;simp [results,Tryz.results100,go_sem,Qd,Qc]) rfl ⟨rfl,(qx.out.bw.setCell (p:=⟨w.heap.size+1+1,0,none⟩) (by simp;omega) _).setCell (p:=⟨w.heap.size+1+1,1,none⟩) (by simp;omega) _⟩
     ·cases h2
      ·obtain ⟨rfl,rfl,rfl⟩:s1=0∧s2=0∧s3=6:=by have h:=HS.out;rw [HN.out 3 zo (by rw [EL.out.2];exact .inr rfl)] at h;cases h;exact ⟨rfl,rfl,rfl⟩
       obtain ⟨c6,l6,f6⟩:=(zh qx.out.br).clf;go_wp2_with fail
       rw [Exit.noGoto_ret];exact bodyPost_ret (v:=.tuple #[.agg #[.int .i64 0,.int .i64 0],.int .i64 6]) (by have h6:=((qx.out.br.set 0 (.int .i64 0)).set 1 (.int .i64 0)).cell;have Qd:=h6 0;have Qc:=h6 1;simp [results,Tryz.results100,go_sem,Qd,Qc]) rfl ⟨rfl,(qx.out.bw.setCell (p:=⟨w.heap.size+1+1,0,none⟩) (by simp;omega) _).setCell (p:=⟨w.heap.size+1+1,1,none⟩) (by simp;omega) _⟩
      ·obtain ⟨c8,l8,f8⟩:=(zh qx.out.bl).clf;obtain ⟨c9,l9,f9⟩:=(zh qx.out.bh).clf;unfold Ce at c8 c9;have UA:=zh (qx.out.step (k:=3) zo (by rw [EL.out.1]) (by rw [EL.out.2]));rw [EL.out.1,EL.out.2] at UA;clear qx;go_wp2_with fail
       go_roundw
       case rel=>exact ⟨2,rfl,rfl,zh (.inr<| .inr ⟨rfl,UA.out⟩)⟩
       case measure=>simp [intOf]
    ·have UA:=zh hS;clear hS HJ;go_wp2_with fail
     go_roundw
     case rel=>exact ⟨2,rfl,rfl,zh (.inr<| .inr ⟨rfl,UA.out⟩)⟩
     case measure=>simp [intOf]
  ·clear HI;have HP:=zh hS;clear hS;have HMn:=zh (fun W h=>ZR (w.heap.size+1+1+1) 4 [(zw Q (x,y) (z,t) 0).1,(zw Q (x,y) (z,t) 1).1,(zw Q (x,y) (z,t) 2).1,(zw Q (x,y) (z,t) 3).1] _ rfl (Ce (zw Q (x,y) (z,t)) 4) 198 W h (VI _) zi);have HMx:=zh (fun W h=>wP (w.heap.size+1+1+1+1) 4 [(zx Q (x,y) (z,t) 0).1,(zx Q (x,y) (z,t) 1).1,(zx Q (x,y) (z,t) 2).1,(zx Q (x,y) (z,t) 3).1] _ rfl (Ce (zx Q (x,y) (z,t)) 4) 198 W h (VI _) zi);have HMd:=zh (fun lo hi W=>qz lo hi W);obtain ⟨mn,emn⟩:∃ v,[(zw Q (x,y) (z,t) 0).1,(zw Q (x,y) (z,t) 1).1,(zw Q (x,y) (z,t) 2).1,(zw Q (x,y) (z,t) 3).1].foldl min (zw Q (x,y) (z,t) 0).1=v:=⟨_,rfl⟩;obtain ⟨mx,emx⟩:∃ v,[(zx Q (x,y) (z,t) 0).1,(zx Q (x,y) (z,t) 1).1,(zx Q (x,y) (z,t) 2).1,(zx Q (x,y) (z,t) 3).1].foldl max (zx Q (x,y) (z,t) 0).1=v:=⟨_,rfl⟩
   have hsp:jR mn mx=((s1,s2),s3):=by
    rw [← HS.out,← emn,← emx];unfold xH;rw [if_pos];unfold aq3;rw [List.all_eq_true];intro q hq;have hq4:q<4:=by simpa using hq
    have:=HP.out.ok q hq4;simp [this.1,this.2]
   rw [emn] at HMn;rw [emx] at HMx;replace HMd:=zh (fun W=>HMd.out mn mx W);rw [hsp] at HMd;unfold gZ at HMd;clear emn emx hsp HL HH HN HS;go_wp2_with fail
   refine aC [(.pure,0),(.pure,2),(.ext,1),(.ext,3),(.ext,4),(.pure,5),(.pure,6),(.fin,7),(.fin,8)] zk zk zR zP ?_;refine Wk.out ?_
   (iterate 2 refine zU ?_)
   refine aM rfl rfl (fun wa hba J hJ=>?_);go_simp;have za:Below wr.heap.size wr wa:=au;refine (HMn.out _ (HP.out.bl.later za)).mono ?_;rintro e wb ⟨rfl,hb⟩;have zb:=Bt za hb;refine hJ _ _ hb ?_;clear hJ J hb hba za HMn;refine aM rfl rfl (fun wc hbc J hJ=>?_);go_simp;have zc:=Bt zb hbc;refine (HMx.out _ (HP.out.bh.later zc)).mono ?_;rintro e wd ⟨rfl,hb⟩;have zd:=Bt zc hb;refine hJ _ _ hb ?_;clear hJ J hb hbc zb zc HMx;refine aM rfl rfl (fun we hbe J hJ=>?_);go_simp;have ze:=Bt zd hbe;refine (HMd.out _).mono ?_;rintro e wf ⟨rfl,hb⟩;have zf:=Bt ze hb;refine hJ _ _ hb ?_;clear hJ J hb hbe zd ze HMd
   (iterate 2 refine zU ?_)
   refine iK [_,_] rfl (fun wg hbg=>?_);have qx:=zh (HP.out.later (Bt zf hbg));clear zf hbg HP;obtain ⟨c6,l6,f6⟩:=(zh qx.out.br).clf;go_wp2_with fail
   rw [Exit.noGoto_ret];exact bodyPost_ret (v:=.tuple #[.agg #[.int .i64 s1,.int .i64 s2],.int .i64 s3]) (by have h6:=((qx.out.br.set 0 (.int .i64 s1)).set 1 (.int .i64 s2)).cell;have Qd:=h6 0;have Qc:=h6 1;simp [results,Tryz.results100,go_sem,Qd,Qc]) rfl ⟨rfl,(qx.out.bw.setCell (p:=⟨w.heap.size+1+1,0,none⟩) (by simp;omega) _).setCell (p:=⟨w.heap.size+1+1,1,none⟩) (by simp;omega) _⟩
def loE (a b:Int × Int) (k:Nat):Int × Bool:=Bn (Pf a k) (MS b k) 1000000000000 false
def Nl (a b:Int × Int) (k:Nat):Int × Bool:=Bn (Pf a k) (MS b k) 1000000000000 true
def bt1 (a b:Int × Int):Bool:=(List.range 4).all fun k=>(loE a b k).2&&(Nl a b k).2
def ak1 (a b:Int × Int):(Int × Int) × Int:=if bt1 a b then jR ([(loE a b 0).1,(loE a b 1).1,(loE a b 2).1,(loE a b 3).1].foldl min (loE a b 0).1) ([(Nl a b 0).1,(Nl a b 1).1,(Nl a b 2).1,(Nl a b 3).1].foldl max (Nl a b 0).1) else ((0,0),6)
def Tc (a b:Int × Int):(Int × Int) × Int:=if okB [a,b] then ak1 a b else ((0,0),30)
theorem WW (x y z t:Int) (hx:x.natAbs≤1000000000000000000) (hy:y.natAbs≤1000000000000000000) (hz:z.natAbs≤1000000000000000000) (ht:t.natAbs≤1000000000000000000) (w:World) :
  Calls Tryz.prog 100 #[.agg #[.int .i64 x,.int .i64 y],.agg #[.int .i64 z,.int .i64 t],.func (.func 101) #[] #[]] w (fun e w'=>e= .returned (gZ (ak1 (x,y) (z,t)))∧Below w.heap.size w w'):=by
 have hpx:∀ k,(Pf (x,y) k).natAbs≤1000000000000000000:=fun k=>by unfold Pf;split<;>assumption
 have hpy:∀ k,(MS (z,t) k).natAbs≤1000000000000000000:=fun k=>by unfold MS;split<;>assumption
 exact yB (fun x y up=>Bn x y 1000000000000 up) 101 #[] x y z t w (fun k up W _=>av2 _ _ up (hpx k) (hpy k) W) (fun args W=>by rfl)
theorem av3 (x y z t:Int) (h0:okB [(x,y),(z,t)]=true) (b c:Nat) (w:World) (h:ah w b #[.int .i64 x,.int .i64 y] 40) (k:ah w c #[.int .i64 z,.int .i64 t] 40) :
  Calls Tryz.prog 99 #[.pointer (some ⟨b,0,none⟩),.pointer (some ⟨c,0,none⟩)] w (fun e w'=>e= .returned (gZ (ak1 (x,y) (z,t)))∧Below w.heap.size w w'):=by
 have h0':jF x y=true∧jF z t=true:=by simpa [okB] using h0
 obtain ⟨hk1,hk2,hk3⟩: -1000000000000000000≤x∧x≤y∧y≤1000000000000000000:=by simpa [jF] using h0'.1
 obtain ⟨hk4,hk5,hk6⟩: -1000000000000000000≤z∧z≤t∧t≤1000000000000000000:=by simpa [jF] using h0'.2
 have H:=zh (fun W=>WW x y z t zo zo zo zo W);generalize ak1 (x,y) (z,t)=m at *;obtain ⟨⟨m1,m2⟩,m3⟩:=m;unfold gZ at *;simp only at *;have cb:=h.cell;have lb:=h.lt;have cc:=k.cell;have lc:=k.lt;clear h k h0 h0' hk1 hk2 hk3 hk4 hk5 hk6;go_enter Tryz.func99,Tryz.ntmps99
 go_wp2_with fail
 refine (H.out _).mono ?_;rintro e w1 ⟨rfl,hb1⟩;have hx:=ah.later (ah.new w #[.int .i64 0,.int .i64 0] 40) hb1;have cx:=hx.cell;have fx:=hx.free;have lx:=hx.lt;have hw:=Bt (show Below w.heap.size w (w.alloc (.cells #[.int .i64 0,.int .i64 0] 40)) from au) hb1;go_wp2_with fail
 refine aK rfl rfl aH Tryz.underlying40 rfl zk ?_;exact ⟨rfl,au⟩
theorem Ci (x y z t:Int) (w:World):Calls Tryz.prog 31 #[.agg #[.int .i64 x,.int .i64 y],.agg #[.int .i64 z,.int .i64 t]] w (fun e w'=>e= .returned (gZ (Tc (x,y) (z,t)))∧Below w.heap.size w w'):=by
 have H:Hid (∀ W b c d,ah W b #[.int .i64 x,.int .i64 y] 40→ah W c #[.int .i64 z,.int .i64 t] 40→ah W d #[.int .i64 x,.int .i64 y,.int .i64 z,.int .i64 t] 40→Calls Tryz.prog 97 #[.func (.func 99) #[] #[.pointer (some ⟨b,0,none⟩),.pointer (some ⟨c,0,none⟩)],.slice (some ⟨d,0,none⟩) 2 2] W (fun e w'=>e= .returned (gZ (Tc (x,y) (z,t)))∧Below W.heap.size W w')):=zh fun W b c d h1 h2 h3 =>
  oh 99 #[.pointer (some ⟨b,0,none⟩),.pointer (some ⟨c,0,none⟩)] _ _ _ _ W (Bf.two h3) (fun h W' hW'=>av3 x y z t h b c W' (h1.later hW') (h2.later hW')) (fun args W=>by rfl)
 generalize Tc (x,y) (z,t)=m at *;obtain ⟨⟨m1,m2⟩,m3⟩:=m;unfold gZ at *;simp only at *;go_enter Tryz.func31,Tryz.ntmps31
 go_wp2_with fail
 obtain ⟨wx,EW,hz,X,Y,R,Z⟩:=al4 w #[.int .i64 x,.int .i64 y] 40 #[.int .i64 z,.int .i64 t] 40 #[.int .i64 0,.int .i64 0] 40 #[.int .i64 x,.int .i64 y,.int .i64 z,.int .i64 t] 40;rw [EW];clear EW;have HB:=zh hz;clear hz;refine (H.out _ _ _ _ X.out Y.out Z.out).mono ?_;rintro e w1 ⟨rfl,hb1⟩;replace R:=R.bl hb1;replace HB:=zh (Bt HB.out hb1);clear hb1 H;have hx:=R.out;have cx:=hx.cell;have fx:=hx.free;have lx:=hx.lt;have hw:=HB.out;go_wp2_with fail
 refine aK rfl rfl aH Tryz.underlying40 rfl zk ?_;exact ⟨rfl,au⟩
def Qw (a b:Int × Int):(Int × Int) × Int:=if okB [a,b] then jR (a.1+b.1) (a.2+b.2) else ((0,0),30)
theorem aw3 (x y z t:Int) (h0:okB [(x,y),(z,t)]=true) (b c:Nat) (w:World) (h:ah w b #[.int .i64 x,.int .i64 y] 40) (k:ah w c #[.int .i64 z,.int .i64 t] 40) :
  Calls Tryz.prog 98 #[.pointer (some ⟨b,0,none⟩),.pointer (some ⟨c,0,none⟩)] w (fun e w'=>e= .returned (gZ (jR (x+z) (y+t)))∧Below w.heap.size w w'):=by
 have h0':jF x y=true∧jF z t=true:=by simpa [okB] using h0
 obtain ⟨hk1,hk2,hk3⟩: -1000000000000000000≤x∧x≤y∧y≤1000000000000000000:=by simpa [jF] using h0'.1
 obtain ⟨hk4,hk5,hk6⟩: -1000000000000000000≤z∧z≤t∧t≤1000000000000000000:=by simpa [jF] using h0'.2
 have H:=zh (fun W=>qz (x+z) (y+t) W);generalize jR (x+z) (y+t)=m at *;obtain ⟨⟨m1,m2⟩,m3⟩:=m;unfold gZ at *;simp only at *;have cb:=h.cell;have lb:=h.lt;have cc:=k.cell;have lc:=k.lt;clear h k h0 h0';go_enter Tryz.func98,Tryz.ntmps98
 go_wp2_with fail
 refine (H.out _).mono ?_;rintro e w1 ⟨rfl,hb1⟩;have hx:=ah.later (ah.new w #[.int .i64 0,.int .i64 0] 40) hb1;have cx:=hx.cell;have fx:=hx.free;have lx:=hx.lt;have hw:=Bt (show Below w.heap.size w (w.alloc (.cells #[.int .i64 0,.int .i64 0] 40)) from au) hb1;go_wp2_with fail
 refine aK rfl rfl aH Tryz.underlying40 rfl zk ?_;exact ⟨rfl,au⟩
theorem Jv (x y z t:Int) (w:World):Calls Tryz.prog 30 #[.agg #[.int .i64 x,.int .i64 y],.agg #[.int .i64 z,.int .i64 t]] w (fun e w'=>e= .returned (gZ (Qw (x,y) (z,t)))∧Below w.heap.size w w'):=by
 have H:Hid (∀ W b c d,ah W b #[.int .i64 x,.int .i64 y] 40→ah W c #[.int .i64 z,.int .i64 t] 40→ah W d #[.int .i64 x,.int .i64 y,.int .i64 z,.int .i64 t] 40→Calls Tryz.prog 97 #[.func (.func 98) #[] #[.pointer (some ⟨b,0,none⟩),.pointer (some ⟨c,0,none⟩)],.slice (some ⟨d,0,none⟩) 2 2] W (fun e w'=>e= .returned (gZ (Qw (x,y) (z,t)))∧Below W.heap.size W w')):=zh fun W b c d h1 h2 h3 =>
  oh 98 #[.pointer (some ⟨b,0,none⟩),.pointer (some ⟨c,0,none⟩)] _ _ _ _ W (Bf.two h3) (fun h W' hW'=>aw3 x y z t h b c W' (h1.later hW') (h2.later hW')) (fun args W=>by rfl)
 generalize Qw (x,y) (z,t)=m at *;obtain ⟨⟨m1,m2⟩,m3⟩:=m;unfold gZ at *;simp only at *;go_enter Tryz.func30,Tryz.ntmps30
 go_wp2_with fail
 obtain ⟨wx,EW,hz,X,Y,R,Z⟩:=al4 w #[.int .i64 x,.int .i64 y] 40 #[.int .i64 z,.int .i64 t] 40 #[.int .i64 0,.int .i64 0] 40 #[.int .i64 x,.int .i64 y,.int .i64 z,.int .i64 t] 40;rw [EW];clear EW;have HB:=zh hz;clear hz;refine (H.out _ _ _ _ X.out Y.out Z.out).mono ?_;rintro e w1 ⟨rfl,hb1⟩;replace R:=R.bl hb1;replace HB:=zh (Bt HB.out hb1);clear hb1 H;have hx:=R.out;have cx:=hx.cell;have fx:=hx.free;have lx:=hx.lt;have hw:=HB.out;go_wp2_with fail
 refine aK rfl rfl aH Tryz.underlying40 rfl zk ?_;exact ⟨rfl,au⟩
def Db (a b:Int × Int):(Int × Int) × Int:=if okB [a,b] then jR (a.1 - b.2) (a.2 - b.1) else ((0,0),30)
theorem au8 (x y z t:Int) (h0:okB [(x,y),(z,t)]=true) (b c:Nat) (w:World) (h:ah w b #[.int .i64 x,.int .i64 y] 40) (k:ah w c #[.int .i64 z,.int .i64 t] 40) :
  Calls Tryz.prog 129 #[.pointer (some ⟨b,0,none⟩),.pointer (some ⟨c,0,none⟩)] w (fun e w'=>e= .returned (gZ (jR (x - t) (y - z)))∧Below w.heap.size w w'):=by
 have h0':jF x y=true∧jF z t=true:=by simpa [okB] using h0
 obtain ⟨hk1,hk2,hk3⟩: -1000000000000000000≤x∧x≤y∧y≤1000000000000000000:=by simpa [jF] using h0'.1
 obtain ⟨hk4,hk5,hk6⟩: -1000000000000000000≤z∧z≤t∧t≤1000000000000000000:=by simpa [jF] using h0'.2
 have H:=zh (fun W=>qz (x - t) (y - z) W);generalize jR (x - t) (y - z)=m at *;obtain ⟨⟨m1,m2⟩,m3⟩:=m;unfold gZ at *;simp only at *;have cb:=h.cell;have lb:=h.lt;have cc:=k.cell;have lc:=k.lt;clear h k h0 h0';go_enter Tryz.func129,Tryz.ntmps129
 go_wp2_with fail
 refine (H.out _).mono ?_;rintro e w1 ⟨rfl,hb1⟩;have hx:=ah.later (ah.new w #[.int .i64 0,.int .i64 0] 40) hb1;have cx:=hx.cell;have fx:=hx.free;have lx:=hx.lt;have hw:=Bt (show Below w.heap.size w (w.alloc (.cells #[.int .i64 0,.int .i64 0] 40)) from au) hb1;go_wp2_with fail
 refine aK rfl rfl aH Tryz.underlying40 rfl zk ?_;exact ⟨rfl,au⟩
theorem Uv (x y z t:Int) (w:World):Calls Tryz.prog 50 #[.agg #[.int .i64 x,.int .i64 y],.agg #[.int .i64 z,.int .i64 t]] w (fun e w'=>e= .returned (gZ (Db (x,y) (z,t)))∧Below w.heap.size w w'):=by
 have H:Hid (∀ W b c d,ah W b #[.int .i64 x,.int .i64 y] 40→ah W c #[.int .i64 z,.int .i64 t] 40→ah W d #[.int .i64 x,.int .i64 y,.int .i64 z,.int .i64 t] 40→Calls Tryz.prog 97 #[.func (.func 129) #[] #[.pointer (some ⟨b,0,none⟩),.pointer (some ⟨c,0,none⟩)],.slice (some ⟨d,0,none⟩) 2 2] W (fun e w'=>e= .returned (gZ (Db (x,y) (z,t)))∧Below W.heap.size W w')):=zh fun W b c d h1 h2 h3 =>
  oh 129 #[.pointer (some ⟨b,0,none⟩),.pointer (some ⟨c,0,none⟩)] _ _ _ _ W (Bf.two h3) (fun h W' hW'=>au8 x y z t h b c W' (h1.later hW') (h2.later hW')) (fun args W=>by rfl)
 generalize Db (x,y) (z,t)=m at *;obtain ⟨⟨m1,m2⟩,m3⟩:=m;unfold gZ at *;simp only at *;go_enter Tryz.func50,Tryz.ntmps50
 go_wp2_with fail
 obtain ⟨wx,EW,hz,X,Y,R,Z⟩:=al4 w #[.int .i64 x,.int .i64 y] 40 #[.int .i64 z,.int .i64 t] 40 #[.int .i64 0,.int .i64 0] 40 #[.int .i64 x,.int .i64 y,.int .i64 z,.int .i64 t] 40;rw [EW];clear EW;have HB:=zh hz;clear hz;refine (H.out _ _ _ _ X.out Y.out Z.out).mono ?_;rintro e w1 ⟨rfl,hb1⟩;replace R:=R.bl hb1;replace HB:=zh (Bt HB.out hb1);clear hb1 H;have hx:=R.out;have cx:=hx.cell;have fx:=hx.free;have lx:=hx.lt;have hw:=HB.out;go_wp2_with fail
 refine aK rfl rfl aH Tryz.underlying40 rfl zk ?_;exact ⟨rfl,au⟩
end Go.Proofs.aQ
namespace Go.Mem
open Go Go.RowKit Go.SW Go.Num
def Nm (w:World) (v:Value) (n:Nat):Prop:=Row w 3 v (ints (eO 10000 n))
theorem Nm.later {w w':World} {v:Value} {n:Nat} (h:Nm w v n) (hb:Below w.heap.size w w'):Nm w' v n:=Row.later h hb
theorem Nm.setOther {w:World} {v:Value} {n:Nat} (h:Nm w v n) {b:Nat} {cs:Array Value} {T':TypeId} (hx:ah w b cs T') (hT:3≠T') (o:Nat) (u:Value):Nm (w.setCell ⟨b,o,none⟩ u) v n:=Row.setOther h hx hT o u
def Gs (w:World) (v:Value) (l:List Nat):Prop:=Row w 3 v (ints l)
theorem Gs.later {w w':World} {v:Value} {l:List Nat} (h:Gs w v l) (hb:Below w.heap.size w w'):Gs w' v l:=Row.later h hb
theorem Gs.cases {w:World} {v:Value} {l:List Nat} (h:Gs w v l) :
  (v= .slice none 0 0∧l=[])∨∃ b off cap,v= .slice (some ⟨b,off,none⟩) l.length cap∧l.length≤cap∧cap≤9223372036854775807∧b<w.heap.size∧(∃ arr,ah w b arr 3)∧∀ i,i<l.length→w.cell? ⟨b,off+i,none⟩=some (.int .i64 (l.getD i 0:Nat)):=by
 rcases Row.cases h with ⟨h1,h2⟩|⟨b,off,cap,arr,h1,h2,h3,h4,h5⟩
 ·refine .inl ⟨h1,?_⟩;unfold ints at h2
  simpa using h2
 ·refine .inr ⟨b,off,cap,by rw [h1,bE],by rwa [bE] at h2,h3,h4.lt,⟨arr,h4⟩,fun i hi=>?_⟩;rw [h4.cell,h5 i (by rw [bE];exact hi)];simp [ints,hi]
theorem Gs.read {w:World} {v:Value} {l:List Nat} (h:Gs w v l) :
  ∃ a cap,v= .slice a l.length cap∧l.length≤cap∧cap≤9223372036854775807∧∀ k,k<l.length→∃ b off,a=some ⟨b,off,none⟩∧b<w.heap.size∧w.cell? ⟨b,off+k,none⟩=some (.int .i64 (l.getD k 0:Nat)):=by
 rcases Gs.cases h with ⟨rfl,rfl⟩|⟨b,off,cap,rfl,h1,h2,h3,_,h5⟩
 ·exact ⟨none,0,rfl,by simp,by simp,fun k hk=>by cases hk⟩
 ·exact ⟨some ⟨b,off,none⟩,cap,rfl,h1,h2,fun k hk=>⟨b,off,rfl,h3,h5 k hk⟩⟩
theorem Nm.ZA {w:World} {v:Value} {l:List Nat} (h:Gs w v l) (hd:iM 10000 l) (ht:Top l):Nm w v (val 10000 l):=by
 unfold Nm;rw [IL zo hd ht];exact h
theorem Nm.gs {w:World} {v:Value} {n:Nat} (h:Nm w v n):Gs w v (eO 10000 n):=h
theorem Gs.jP {w:World} {base k:Nat} {v:Value} {s:List Nat} (h:w.ownsRow base 3 1 v k (ints s)):Gs w v s:=Row.jP h
theorem Bv (n:Nat):(madeCells #[Value.int .i64 0] n).toList=ints (List.replicate n 0):=by
 rw [toList_madeCells_one];simp [ints]
theorem ints_set (l:List Nat) (k d:Nat):(ints l).set k (.int .i64 (d:Int))=ints (l.set k d):=by simp [ints,List.map_set]
theorem uR {l:List Nat} {k:Nat} (h:k<l.length):(ints l)[k]? =some (.int .i64 (l.getD k 0:Nat)):=by simp [ints,h]
theorem Gs.yK {w:World} {g n m:Nat} {l post:List Nat} (h:ah w g (ints (l++post)).toArray 3) (hl:l.length=n) (hm:n≤m) (hm2:m≤9223372036854775807):Gs w (.slice (some ⟨g,0,none⟩) n m) l:=by
 refine Row.mk (by rw [bE];omega) (by rw [bE];omega) hm2 h fun i hi=>?_;rw [bE] at hi;rw [Nat.zero_add,List.getElem?_toArray];simp [ints,hi,List.getElem?_append_left]
theorem Nm.lit {w:World} {d:Nat} (h0:0<d) (h1:d<10000):Nm (w.alloc (.cells #[.int .i64 d] 3 (0,0))) (.slice (some ⟨w.heap.size,0,none⟩) 1 1) d:=by
 have e:eO 10000 d=[d]:=by rw [nG zo h0,Nat.mod_eq_of_lt h1,Nat.div_eq_of_lt h1,jk]
 unfold Nm;rw [e];refine Row.mk rfl (by simp [ints]) zo (ah.new _ _ _) fun i hi=>?_
 match i,hi with
 | 0,_=>rfl
theorem Nm.zero (w:World):Nm w (.slice none 0 0) 0:=by unfold Nm;rw [jk];exact Row.nil _ _
theorem ints_oneCell (l:List Nat):∀ v∈ints l,v.oneCell'=true:=fun v hv=>by
 obtain ⟨d,_,rfl⟩:=List.mem_map.1 hv;rfl
theorem Gs.src {w:World} {a:Option Addr} {l:List Nat} (h:∀ k,k<l.length→∃ b off,a=some ⟨b,off,none⟩∧b<w.heap.size∧w.cell? ⟨b,off+k,none⟩=some (.int .i64 (l.getD k 0:Nat))) (hl:0<(ints l).length) :
  ∃ ad,a=some ad∧∀ j v,(ints l)[j]? =some v→w.cell? (ad.add j)=some v:=by
 rw [bE] at hl;obtain ⟨b,off,rfl,_,_⟩:=h 0 hl;refine ⟨_,rfl,fun j v hv=>?_⟩
 have hj:j<l.length:=by
  have:=(List.getElem?_eq_some_iff.1 hv).1;rwa [bE] at this
 obtain ⟨b',off',h1,_,h3⟩:=h j hj;simp only [Option.some.injEq,Addr.mk.injEq,and_true] at h1;obtain ⟨rfl,rfl⟩:=h1;rw [uR hj] at hv;rw [Addr.add_lit,h3,← hv]
theorem Nm.slice {w:World} {v:Value} {n:Nat} (h:Nm w v n):∃ pa l ca,v= .slice pa l ca:=by
 obtain ⟨a,cap,h1, -⟩:=h;exact ⟨_,_,_,h1⟩
def Pl (w:World) (v:Value) (z:Int):Prop:=∃ pa l ca,v= .agg #[.bool (decide (z<0)),.slice pa l ca]∧Nm w (.slice pa l ca) z.natAbs
theorem Pl.later {w w':World} {v:Value} {z:Int} (h:Pl w v z) (hb:Below w.heap.size w w'):Pl w' v z:=by
 obtain ⟨pa,l,ca,h1,h2⟩:=h;exact ⟨pa,l,ca,h1,h2.later hb⟩
theorem Pl.mk {w:World} {m:Value} {z:Int} {b:Bool} {n:Nat} (h:Nm w m n) (hn:n=z.natAbs) (hb:b=decide (z<0)):Pl w (.agg #[.bool b,m]) z:=by
 obtain ⟨pa,l,ca,rfl⟩:=h.slice;exact ⟨pa,l,ca,by rw [hb],hn ▸ h⟩
theorem Pl.cast {w:World} {v:Value} {y z:Int} (h:Pl w v y) (e:y=z):Pl w v z:=e ▸ h
theorem Nm.alloc {w:World} {v:Value} {n:Nat} (h:Nm w v n) (o:Obj):Nm (w.alloc o) v n:=h.later ((Below.refl _ _).alloc (Nat.le_refl _) _)
theorem Gs.alloc {w:World} {v:Value} {n:List Nat} (h:Gs w v n) (o:Obj):Gs (w.alloc o) v n:=h.later ((Below.refl _ _).alloc (Nat.le_refl _) _)
theorem Pl.agg {w:World} {v:Value} {z:Int} (h:Pl w v z):∃ b pa l ca,v= .agg #[.bool b,.slice pa l ca]:=by
 obtain ⟨pa,l,ca,h1, -⟩:=h;exact ⟨_,_,_,_,h1⟩
theorem Pl.setOther {w:World} {v:Value} {z:Int} (h:Pl w v z) {b:Nat} {cs:Array Value} {T':TypeId} (hx:ah w b cs T') (hT:3≠T') (o:Nat) (u:Value):Pl (w.setCell ⟨b,o,none⟩ u) v z:=by
 obtain ⟨pa,l,ca,h1,h2⟩:=h;exact ⟨pa,l,ca,h1,h2.setOther hx hT o u⟩
theorem Pl.set2 {w:World} {v:Value} {z:Int} (h:Pl w v z) {b:Nat} {cs:Array Value} {T':TypeId} (hx:ah w b cs T') (hT:3≠T') (o1 o2:Nat) (u1 u2:Value):Pl ((w.setCell ⟨b,o1,none⟩ u1).setCell ⟨b,o2,none⟩ u2) v z :=
 (h.setOther hx hT o1 u1).setOther (hx.set o1 u1) hT o2 u2
theorem Pl.nm {w:World} {b:Bool} {pa:Option Addr} {l ca:Nat} {z:Int} (h:Pl w (.agg #[.bool b,.slice pa l ca]) z):Nm w (.slice pa l ca) z.natAbs∧b=decide (z<0):=by
 obtain ⟨pa',l',ca',e,h2⟩:=h;simp only [Value.agg.injEq,Array.mk.injEq,List.cons.injEq,Value.bool.injEq,and_true] at e;obtain ⟨e1,e2⟩:=e;rw [e2];exact ⟨h2,e1⟩
theorem Zh (z:Int):kM z.natAbs (!decide (z<0))= -z:=Vg z
theorem Zj (z:Int):kM z.natAbs (decide (z<0))=z:=by
 unfold kM
 by_cases h:z<0<;>simp [h]<;>omega
theorem Zk (n:Nat) (b:Bool):(b&&decide (0<n))=decide (kM n b<0):=by
 rw [← Vh,Bool.eq_iff_iff];simp
 omega
theorem Nm.read {w:World} {v:Value} {n:Nat} (h:Nm w v n):∃ a cap,v= .slice a (sz 10000 n) cap∧sz 10000 n≤cap∧cap≤9223372036854775807∧∀ k,k<sz 10000 n→∃ b off,a=some ⟨b,off,none⟩∧b<w.heap.size∧w.cell? ⟨b,off+k,none⟩=some (.int .i64 ((eO 10000 n).getD k 0:Nat)):=Gs.read h.gs
theorem Nm.bq5 {w:World} {pa:Option Addr} {l c n:Nat} (h:Nm w (.slice pa l c) n) (hn:0<n):0<l:=by
 obtain ⟨a,cap,e, -⟩:=h.read;simp only [Value.slice.injEq] at e;rw [e.2.1];unfold sz;rw [List.length_pos_iff,Ne,qI zo];omega
theorem Nm.bq6 {w:World} {pa:Option Addr} {l c n:Nat} (h:Nm w (.slice pa l c) n) (hn:n=0):l=0:=by
 obtain ⟨a,cap,e, -⟩:=h.read;simp only [Value.slice.injEq] at e;rw [e.2.1,hn,DI]
end Go.Mem
namespace Go.Num
def uY (l:List Nat):Nat:=(l.map fun x=>x^2).sum
def nlo (l:List Nat):Nat:=iH 2 (uY l)
def nhi (l:List Nat):Nat:=if nlo l^2=uY l then nlo l else nlo l+1
theorem Zg (x:Nat) (l:List Nat):uY (x::l)=x^2+uY l:=rfl
theorem Gh (a b:List Nat):uY (a++b)=uY a+uY b:=by
 unfold uY;rw [List.map_append,List.sum_append]
end Go.Num
namespace Go.Num
def Ov (b:Int × Int):Nat:=(max b.1 (max (-b.2) 0)).toNat
def NJ (b:Int × Int):Nat:=(max (-b.1) b.2).toNat
def Br (l:List Nat) (up:Bool):Int × Int:=if nlo l≤10^18 then (((if up then nhi l else nlo l:Nat):Int),0) else (0,6)
theorem an0 {l:List Nat} {up:Bool} (h:nlo l≤10^18):Br l up=(((nlo l:Nat):Int)+(if (up&& !(decide (nlo l^2=uY l))) then 1 else 0),0):=by
 unfold Br nhi;rw [if_pos h]
 by_cases e:nlo l^2=uY l<;>cases up<;>simp [e]
end Go.Num
namespace Go.Proofs.power
open Go Go.RowKit Go.Shelf Go.SW Go.Num Go.Mem Go.Proofs Go.Dec Go.jQ Go.Proofs.aQ
attribute [local go_sem] Oper.semAt_some
theorem at5 {lo hi:Int} (h:jF lo hi=true):af9 lo hi=((((Ov (lo,hi):Nat):Int),((NJ (lo,hi):Nat):Int)),0):=by
 obtain ⟨hk1,hk2,hk3⟩: -1000000000000000000≤lo∧lo≤hi∧hi≤1000000000000000000:=by simpa [jF] using h
 unfold af9;rw [if_pos h]
 have e1:((Ov (lo,hi):Nat):Int)=max (max lo (-hi)) 0:=by
  unfold Ov;simp only;omega
 have e2:((NJ (lo,hi):Nat):Int)=max (-lo) hi:=by
  unfold NJ;simp only;omega
 rw [e1,e2];unfold jR;rw [if_pos];unfold jF;simp only [Bool.and_eq_true,decide_eq_true_eq];omega
theorem Uj {b:Int × Int} (h:jF b.1 b.2=true):Ov b≤NJ b∧NJ b≤10^18:=by
 obtain ⟨hk1,hk2,hk3⟩: -1000000000000000000≤b.1∧b.1≤b.2∧b.2≤1000000000000000000:=by simpa [jF] using h
 have h18:(10:Nat)^18=1000000000000000000:=by decide
 rw [h18];unfold Ov NJ;omega
theorem below_grown {W W':World} (h:Below W.heap.size W W'):W.grownBy W' none:=⟨h.os,h.tape,h.output,h.size,fun i hi _=>h.block i hi⟩
def aq8 (bs:List (Int × Int)) (k:Fin bs.length):Array Value:=#[.agg #[.int .i64 ((Ov bs[k.1]:Nat):Int),.int .i64 ((NJ bs[k.1]:Nat):Int)]]
def upto {n:Nat} (k:Nat) (h:k≤n):List (Fin n):=List.ofFn (n:=k) fun i=>⟨i.1,Nat.lt_of_lt_of_le i.2 h⟩
theorem uJ {n k:Nat} (h:k+1≤n):upto (k+1) h=upto k zo++[⟨k,h⟩]:=by
 unfold upto;rw [List.ofFn_succ_last];rfl
theorem mX {n k:Nat} (h:k≤n):(upto k h).length=k:=by simp [upto]
theorem Km (n:Nat) (hn:1≤n) (l Bs n₀:Nat) (bs:List (Int × Int)) (hok:okB bs=true) (a:Option Addr) (cap:Nat) (J Jx:List (Fin bs.length)→World→Prop) (B₀:Nat) (hJ0:AbidesFrom B₀ J)
  (hY:∀ pre x W,J pre W→pre.length<bs.length→YieldAt Fence.wide (n - 1) Tryz.prog l (aq8 bs x) W fun en W' =>
   (en= .returned (.bool true)∧J (pre++[x]) W'∧Below n₀ W W')∨(en= .returned (.bool false)∧Jx (pre++[x]) W'))
  (W:World) (hn₀:n₀≤W.heap.size) (hBs:W.cell? ⟨Bs,0,none⟩=some (.slice a bs.length cap)) (hlen:bs.length≤9223372036854775807)
  (hread:∀ k (_:k<bs.length),∃ b off,a=some ⟨b,off,none⟩∧b<n₀∧W.cell? ⟨b,off+k*2,none⟩=some (.int .i64 bs[k].1)∧W.cell? ⟨b,off+k*2+1,none⟩=some (.int .i64 bs[k].2)) (h0:J [] W) :
  CallsIn Fence.wide n Tryz.prog 230 #[.func (.yield l) #[] #[],.pointer (some ⟨Bs,0,none⟩)] W fun en W'=>(∃ v,en= .returned v) ∧
   ((∃ ys,ys=upto bs.length (Nat.le_refl _)∧J ys W')∨(∃ pre,True∧Jx pre W')):=by
 have HR:=zh hread;have HY:=zh hY;have HJ:=zh hJ0;clear hread hY hJ0;refine callsIn_of_wp Tryz.func230 rfl trivial ?_ rfl;simp only [Tryz.ntmps230,List.size_toArray,List.length_cons,List.length_nil,Nat.reduceAdd,Nat.reduceSub,Array.replicate_succ,Array.replicate_zero,List.push_toArray,List.append_toArray,List.nil_append,List.cons_append]
 gi_wp2
 gi_loopw [9] (fun i wr=>∃ (k:Nat) (hk:k≤bs.length),i= .int .i64 k∧J (upto k hk) wr∧Below n₀ W wr)
  (fun i _=>bs.length - (intOf i).toNat)
 case atStart=>exact ⟨0,Nat.zero_le _,rfl,h0,Below.refl _ _⟩
 case round =>
  obtain ⟨k,hk,rfl,hJs,hnx⟩:=hrel
  by_cases hlt:k<bs.length
  ·obtain ⟨b,off,rfl,hbl,hx1,hx2⟩:=HR.out k hlt;have hc1:=(hnx.cell (p:=⟨b,off+k*2,none⟩) hbl).trans hx1;have hc2:=(hnx.cell (p:=⟨b,off+k*2+1,none⟩) hbl).trans hx2;clear hx1 hx2
   have hv:jF bs[k].1 bs[k].2=true:=by
    unfold okB at hok;exact List.all_eq_true.1 hok _ (List.getElem_mem hlt)
   have HA:=zh (fun W=>aM4 bs[k].1 bs[k].2 W);rw [at5 hv] at HA;have HYK:=zh (fun W1 hJ1=>HY.out (upto k hk) ⟨k,hlt⟩ W1 hJ1 (by rw [mX];exact hlt));unfold aq8 at HYK;unfold gZ at HA;simp only at HA HYK;have e0:bs[k]=(bs[k].1,bs[k].2):=rfl;rw [← e0] at HA;have HB:=zh hbl;clear hv e0 hbl;generalize bs[k].1=y1 at *;generalize bs[k].2=y2 at *;generalize ((Ov bs[k]:Nat):Int)=z1 at *;generalize ((NJ bs[k]:Nat):Int)=z2 at *
   gi_wp2_with (refine ⟨trivial,?_⟩;gi_at_call 94;refine (callsIn_wide.2 (HA.out _)).mono ?_;rintro e w1 ⟨rfl,hc3⟩;have hJ1:J (upto k hk) (w1.alloc (.cells #[.int .i64 z1,.int .i64 z2] 40)):=HJ.out _ _ _ none (HJ.out _ _ _ none (HJ.out _ _ _ none hJs (World.grownBy_alloc _ _ none) (fun r e=>by cases e)) (below_grown hc3) (fun r e=>by cases e)) (World.grownBy_alloc _ _ none) (fun r e=>by cases e);have hB1:Below n₀ W (w1.alloc (.cells #[.int .i64 z1,.int .i64 z2] 40)):=((hnx.alloc (Nat.le_trans hn₀ hnx.size) _).trans (hc3.mono (Nat.le_trans hn₀ (Nat.le_trans hnx.size zi)))).alloc (Nat.le_trans hn₀ (Nat.le_trans hnx.size (Nat.le_trans zi hc3.size))) _;obtain ⟨fn,tmps,assign,body,hy,hR⟩:=HYK.out _ hJ1;have hy2:(Instr.yield l #[Value.agg #[Value.int IntKind.i64 z1,Value.int IntKind.i64 z2]]).run Tryz.prog (w1.alloc (.cells #[.int .i64 z1,.int .i64 z2] 40))=_:=hy;clear hy)
   refine hR.mono ?_;rintro e W3 (⟨rfl,hJ3,hk3⟩|⟨rfl,hJx3⟩)
   ·gi_wp2
    go_roundw
    case rel=>exact ⟨k+1,hlt,by simp,by rw [uJ];exact hJ3,hB1.trans hk3⟩
    case measure=>exact zM
   ·gi_wp2
    refine bodyPost_ret (results_none rfl _ _ _) rfl ?_;exact ⟨⟨_,rfl⟩,.inr ⟨_,trivial,hJx3⟩⟩
  ·obtain rfl:k=bs.length:=by omega
   have hge:¬ bs.length<bs.length:=by omega
   have bs4:decide ((bs.length:Int)<(bs.length:Int))=false:=by simp
   gi_wp2
   go_end0
   exact ⟨⟨_,rfl⟩,.inl ⟨_,rfl,hJs⟩⟩
theorem NT (n:Nat) (a:Option Addr) (len cap:Nat) (w:World) :
  CallsIn Fence.wide n Tryz.prog 153 #[.slice a len cap] w fun e w'=>e= .returned (.func (.func 230) #[] #[.pointer (some ⟨w.heap.size,0,none⟩)])∧w'=w.alloc (.cells #[.slice a len cap] 122):=by
 refine callsIn_of_wp Tryz.func153 rfl trivial ?_ rfl;simp only [Tryz.ntmps153,List.size_toArray,List.length_cons,List.length_nil,Nat.reduceAdd,Nat.reduceSub,Array.replicate_succ,Array.replicate_zero,List.push_toArray,List.append_toArray,List.nil_append,List.cons_append]
 gi_wp2
 go_ret
 exact ⟨rfl,rfl⟩
theorem Dv (n:Nat) (hn:1≤n) (Bs n₀:Nat) (sv:Value) (T:TypeId) (bs:List (Int × Int)) (hok:okB bs=true) (w0 w:World) (hBs:Bs<w.heap.size) (hn₀:n₀≤w.heap.size)
  (hc:w.cell? ⟨Bs,0,none⟩=some sv) (hR:Bf w0 T sv bs) (h0:w0.heap.size≤n₀) (hb:Below w0.heap.size w0 w) :
  SeqStopsK Fence.wide n Tryz.prog 230 #[.pointer (some ⟨Bs,0,none⟩)] (aq8 bs) (Below n₀) (fun ys=>ys=upto bs.length (Nat.le_refl _)) (fun _=>True) bs.length w:=fun l J Jx W hW hJ _ hY hJ0=>by
 obtain ⟨a,cap,rfl,h1,h2,h3⟩:=hR.read;have hc':=(hW.cell (p:=⟨Bs,0,none⟩) hBs).trans hc;have hB:=hb.trans (hW.mono (Nat.le_trans h0 hn₀));refine Km n hn l Bs n₀ bs hok a cap J Jx _ hJ hY W (Nat.le_trans hn₀ hW.size) hc' zo (fun k hk=>?_) hJ0;obtain ⟨b,off,h4,h5,h6,h7⟩:=h3 k hk;exact ⟨b,off,h4,Nat.lt_of_lt_of_le h5 h0,(hB.cell (p:=⟨b,_,none⟩) h5).trans h6,(hB.cell (p:=⟨b,_,none⟩) h5).trans h7⟩
end Go.Proofs.power
namespace Go.Proofs
open Go Go.RowKit Go.SW Go.Num Go.Mem
theorem Xb (w:World) (a1 a2 a3 a4 a5 a6 b1 b2 b3 b4 b5 b6:ByteArray) :
  (Op.equalIn 10000 34 (.agg #[.string a1,.string a2,.string a3,.string a4,.string a5,.string a6]) (.agg #[.string b1,.string b2,.string b3,.string b4,.string b5,.string b6])).run Tryz.prog w
   = .ok (((a1 == b1)&&(a2 == b2))&&((a3 == b3)&&(a4 == b4))&&((a5 == b5)&&(a6 == b6))) w:=by
 obtain ⟨i0,hi⟩:=Option.isSome_iff_exists.1 (show (Tryz.prog.info? 32).isSome=true by kernel_rfl);rw [run_equalIn_array w 9999 _ _ Tryz.underlying34 hi];have hc:Tryz.prog.cellsOf 32=2:=by kernel_rfl
 rw [hc];go_simp;simp only [Op.eqItems];go_simp;simp only [beq_toListBytes]
 by_cases h1:a1.toList=b1.toList<;>by_cases h2:a2.toList=b2.toList<;>by_cases h3:a3.toList=b3.toList<;>by_cases h4:a4.toList=b4.toList<;>by_cases h5:a5.toList=b5.toList<;>by_cases h6:a6.toList=b6.toList<;>simp [h1,h2,h3,h4,h5,h6]
theorem oO (a1 a2 a3 a4 a5 a6:ByteArray) (w:World) :
  (Op.equalIn 10000 34 (.agg #[.string a1,.string a2,.string a3,.string a4,.string a5,.string a6]) (.agg #[.string a1,.string a2,.string a3,.string a4,.string a5,.string a6])).run Tryz.prog w= .ok true w:=by
 rw [Xb];simp [beq_toListBytes]
end Go.Proofs
namespace Go.Mem
open Go Go.RowKit Go.SW Go.Num Go.Dec
structure Hd (p:Prop):Type where
 out:p
def hd {p:Prop} (h:p):Hd p:=⟨h⟩
def Hd.bl {w w':World} {b:Nat} {cs:Array Value} {T:TypeId} (h:Hd (ah w b cs T)) (hb:Below w.heap.size w w'):Hd (ah w' b cs T):=hd (h.out.later hb)
end Go.Mem
namespace Go.Fw
open Go Go.RowKit Go.SW Go.Mem
def look:List (Nat × Value)→Nat→Value
 | [],_=>undef
 | p::S,j=>bif Nat.beq j p.1 then p.2 else look S j
theorem Lc (p:Nat × Value) (S:List (Nat × Value)) (j:Nat):look (p::S) j=bif Nat.beq j p.1 then p.2 else look S j:=rfl
def ev (S:List (Nat × Value)):Operand→Value
 | .tmp t=>look S t
 | .const v=>v
 | .global g=>.pointer (some ⟨g,0,none⟩)
 | .func f=>.func (.func f) #[] #[]
structure QK (n:Nat) (S:List (Nat × Value)) (a:Act):Prop where
 size:a.tmps.size=n
 get:∀ i,a.tmps.getD i undef=look S i
 defers:a.defers=[]
theorem QK.eval {n:Nat} {S:List (Nat × Value)} {a:Act} (h:QK n S a):a.eval=ev S:=by
 funext x
 cases x with
 | tmp t=>exact h.get t
 | const v=>rfl
 | global g=>rfl
 | func f=>rfl
def slot (n:Nat) (d:Option Nat) (v:Value):Nat × Value:=match d with
 | some d=>bif Nat.blt d n then (d,v) else (n,undef)
 | none=>(n,undef)
theorem QK.put {n:Nat} {S:List (Nat × Value)} {a:Act} (h:QK n S a) (d:Option Nat) (v:Value):QK n (slot n d v::S) (a.put d v):=by
 have hu:look S n=undef:=by
  rw [← h.get n];simp [Array.getD,h.size]
 have hno:∀ i,look ((n,undef)::S) i=look S i:=fun i=>by
  rw [Lc];cases hb:Nat.beq i n with
  | true=>rw [Nat.eq_of_beq_eq_true hb];exact hu.symm
  | false=>rfl
 cases d with
 | none=>exact ⟨h.size,fun i=>(h.get i).trans (hno i).symm,h.defers⟩
 | some d =>
  cases hb:Nat.blt d n with
  | false =>
   have hd:¬ d<n:=fun hc=>by
    have:=Nat.ble_eq_true_of_le (Nat.succ_le_of_lt hc);unfold Nat.blt at hb;rw [this] at hb;cases hb
   refine ⟨by simpa [Act.put] using h.size,fun i=>?_,h.defers⟩;have e:slot n (some d) v=(n,undef):=by unfold slot;simp only [hb];rfl
   rw [e,hno,← h.get i]
   show (a.tmps.setIfInBounds d v).getD i undef=_
   rw [show a.tmps.setIfInBounds d v=a.tmps from Array.setIfInBounds_eq_of_size_le (by have:=h.size;omega)]
  | true =>
   have hd:d<n:=Nat.le_of_ble_eq_true hb;refine ⟨by simpa [Act.put] using h.size,fun i=>?_,h.defers⟩;have e:slot n (some d) v=(d,v):=by unfold slot;simp only [hb];rfl
   rw [e,Lc]
   show (a.tmps.setIfInBounds d v).getD i undef=bif Nat.beq i d then v else look S i
   have hs:=h.size;cases hi:Nat.beq i d with
   | true =>
    obtain rfl:=Nat.eq_of_beq_eq_true hi;simp [Array.getD,hs,hd]
   | false =>
    have hne:d≠i:=fun e=>by subst e;simp at hi
    rw [cond_false,← h.get i];simp [Array.getD_eq_getD_getElem?, hne]
def yl (ops:Array Oper) (S:List (Nat × Value)) (j:Nat):Option Bool:=match (ops[j]?).bind (·.dst) with
 | some d=>(match look S d with| .bool b=>some b| _=>none)
 | none=>none
theorem QK.yl {n:Nat} {S:List (Nat × Value)} {a:Act} (h:QK n S a) (ops:Array Oper):yielded ops a.tmps=yl ops S:=by
 funext j
 unfold yielded Fw.yl;cases hd:(ops[j]?).bind (·.dst) with
 | none=>rfl
 | some d =>
  simp only [Option.bind_some];have hg:=h.get d;rw [Array.getD_eq_getD_getElem?] at hg;cases ht:a.tmps[d]? with
  | none=>rw [ht] at hg;rw [← hg];rfl
  | some v=>rw [ht] at hg;rw [← hg];cases v<;>rfl
/-! ### What stands behind -/
inductive Kt|seq (c:Code)|block (id:Nat)|again (c:Code) (m:Nat)
abbrev Post:=Exit→List (Nat × Value)→World→Prop
def lift (n:Nat) (Q:Post):Exit→Act→World→Prop
 | .panic c,a,w=>a.defers=[]∧∃ S,Q (.panic c) S w
 | e,a,w=>∃ S,QK n S a∧Q e S w
theorem zY {n:Nat} {Q:Post} {e:Exit} {a:Act} {w:World} {S:List (Nat × Value)} (h:QK n S a) (hq:Q e S w):lift n Q e a w:=by
 cases e with
 | panic c=>exact ⟨h.defers,S,hq⟩
 | _=>exact ⟨S,h,hq⟩
theorem Tf {n:Nat} {Q:Post} (c:List PanicEntry) (a s:Act) (w:World) (hs:s.defers=a.defers) (h:lift n Q (.panic c) a w):lift n Q (.panic c) s w:=⟨hs.trans h.1,h.2⟩
section
variable (P:Program) (n:Nat)
def rounds (c:Code) (Q:Post):Nat→List (Nat × Value)→World→Prop
 | 0,_,_=>False
 | m+1,S,w=>∀ a,QK n S a→c.wp P (lift n (fun e S w=>match e with| .normal=>rounds c Q m S w|e=>Q e S w)) a w
def Cont (R:Post):List Kt→Post
 | [],e,S,w=>R e S w
 | .seq c::k,.normal,S,w=>∀ a,QK n S a→c.wp P (lift n (Cont R k)) a w
 | .seq _::k,e,S,w=>Cont R k e S w
 | .block id::k,.exit id',S,w=>if id'=id then Cont R k .normal S w else Cont R k (.exit id') S w
 | .block _::k,e,S,w=>Cont R k e S w
 | .again c m::k,.normal,S,w=>rounds P n c (Cont R k) m S w
 | .again _ _::k,e,S,w=>Cont R k e S w
structure Wc (R:Post) (c:Code) (k:List Kt) (S:List (Nat × Value)) (w:World):Prop where
 out:∀ a,QK n S a→c.wp P (lift n (Cont P n R k)) a w
structure Nx (R:Post) (e:Exit) (k:List Kt) (S:List (Nat × Value)) (w:World):Prop where
 out:Cont P n R k e S w
end
section
variable {P:Program} {n:Nat} {R:Post} {k:List Kt} {S:List (Nat × Value)} {w:World} {c c1 c2:Code} {e:Exit}
theorem seq (h:Wc P n R c1 (.seq c2::k) S w):Wc P n R (.seq c1 c2) k S w:=⟨fun a ha=>wp_seq (wp_mono (h.out a ha) fun e a w hq=>by
 cases e with
 | normal=>obtain ⟨S,hs,hq⟩:=hq;exact hq a hs
 | exit id=>obtain ⟨S,hs,hq⟩:=hq;exact ⟨S,hs,hq⟩
 | goto id=>obtain ⟨S,hs,hq⟩:=hq;exact ⟨S,hs,hq⟩
 | ret=>obtain ⟨S,hs,hq⟩:=hq;exact ⟨S,hs,hq⟩
 | panic ch=>obtain ⟨hd,S,hq⟩:=hq;exact ⟨hd,S,hq⟩
 | outgrown=>obtain ⟨S,hs,hq⟩:=hq;exact ⟨S,hs,hq⟩)⟩
theorem block {id:Nat} (h:Wc P n R c (.block id::k) S w):Wc P n R (.block id c) k S w:=⟨fun a ha=>wp_block (wp_mono (h.out a ha) fun e a w hq=>by
 cases e with
 | normal=>obtain ⟨S,hs,hq⟩:=hq;exact ⟨S,hs,hq⟩
 | exit id' =>
  obtain ⟨S,hs,hq⟩:=hq;simp only [Cont] at hq;simp only [Exit.inBlock];split at hq
  ·rename_i h;rw [if_pos h];exact ⟨S,hs,hq⟩
  ·rename_i h;rw [if_neg h];exact ⟨S,hs,hq⟩
 | goto id=>obtain ⟨S,hs,hq⟩:=hq;exact ⟨S,hs,hq⟩
 | ret=>obtain ⟨S,hs,hq⟩:=hq;exact ⟨S,hs,hq⟩
 | panic ch=>obtain ⟨hd,S,hq⟩:=hq;exact ⟨hd,S,hq⟩
 | outgrown=>obtain ⟨S,hs,hq⟩:=hq;exact ⟨S,hs,hq⟩)⟩
theorem skip (h:Nx P n R .normal k S w):Wc P n R .skip k S w:=⟨fun _ ha=>wp_skip (zY ha h.out)⟩
theorem exit {id:Nat} (h:Nx P n R (.exit id) k S w):Wc P n R (.exit id) k S w:=⟨fun _ ha=>wp_exit (zY ha h.out)⟩
theorem ret (h:Nx P n R .ret k S w):Wc P n R .ret k S w:=⟨fun _ ha=>wp_ret (zY ha h.out)⟩
theorem CY {x:Operand} {b:Bool} (hx:ev S x= .bool b) (hb:b=true) (h:Wc P n R c1 k S w):Wc P n R (.cond x c1 c2) k S w :=
 ⟨fun a ha=>wp_cond_true (by rw [ha.eval,hx,hb]) (h.out a ha)⟩
theorem tT {x:Operand} {b:Bool} (hx:ev S x= .bool b) (hb:b=false) (h:Wc P n R c2 k S w):Wc P n R (.cond x c1 c2) k S w :=
 ⟨fun a ha=>wp_cond_false (by rw [ha.eval,hx,hb]) (h.out a ha)⟩
theorem OT (m:Nat) {Q:Post} {a:Act} (h:rounds P n c Q m S w) (ha:QK n S a):Code.rounds P c (lift n Q) m a w:=by
 induction m generalizing S a w with
 | zero=>exact h.elim
 | succ m ih =>
  refine wp_mono (h a ha) fun e a w hq=>?_;cases e with
  | normal=>obtain ⟨S,hs,hq⟩:=hq;exact ih hq hs
  | exit id=>obtain ⟨S,hs,hq⟩:=hq;exact ⟨S,hs,hq⟩
  | goto id=>obtain ⟨S,hs,hq⟩:=hq;exact ⟨S,hs,hq⟩
  | ret=>obtain ⟨S,hs,hq⟩:=hq;exact ⟨S,hs,hq⟩
  | panic ch=>obtain ⟨hd,S,hq⟩:=hq;exact ⟨hd,S,hq⟩
  | outgrown=>obtain ⟨S,hs,hq⟩:=hq;exact ⟨S,hs,hq⟩
theorem again {m:Nat} (h:Wc P n R c (.again c m::k) S w):Nx P n R .normal (.again c (m+1)::k) S w:=⟨fun a ha=>wp_mono (h.out a ha) fun e a w hq=>by
 cases e with
 | normal=>obtain ⟨S,hs,hq⟩:=hq;exact ⟨S,hs,hq⟩
 | exit id=>obtain ⟨S,hs,hq⟩:=hq;exact ⟨S,hs,hq⟩
 | goto id=>obtain ⟨S,hs,hq⟩:=hq;exact ⟨S,hs,hq⟩
 | ret=>obtain ⟨S,hs,hq⟩:=hq;exact ⟨S,hs,hq⟩
 | panic ch=>obtain ⟨hd,S,hq⟩:=hq;exact ⟨hd,S,hq⟩
 | outgrown=>obtain ⟨S,hs,hq⟩:=hq;exact ⟨S,hs,hq⟩⟩
theorem loop (m:Nat) (h:Wc P n R c (.again c m::k) S w):Wc P n R (.loop c) k S w :=
 ⟨fun _ ha=>wp_loop_rounds (m+1) (OT (m+1) (again h).out ha)⟩
theorem aJ (h:Wc P n R c k S w):Nx P n R .normal (.seq c::k) S w:=⟨h.out⟩
theorem Nb {id:Nat} (h:Nx P n R (.exit id) k S w):Nx P n R (.exit id) (.seq c::k) S w:=⟨h.out⟩
theorem qG {id:Nat} (h:Nx P n R .normal k S w):Nx P n R .normal (.block id::k) S w:=⟨h.out⟩
theorem Nc {id:Nat} (h:Nx P n R .normal k S w):Nx P n R (.exit id) (.block id::k) S w:=⟨by unfold Cont;rw [if_pos rfl];exact h.out⟩
theorem Bq {id m:Nat} (h:Nx P n R (.exit id) k S w):Nx P n R (.exit id) (.again c m::k) S w:=⟨h.out⟩
end
/-! ### Entry and end -/
def Ends (P:Program) (n:Nat) (fn:Func) (E:Ending→World→Prop):Post
 | .normal,S,w=>∀ a,QK n S a→∃ v,(results fn a.tmps).run P w= .ok v w∧E (.returned v) w
 | .ret,S,w=>∀ a,QK n S a→∃ v,(results fn a.tmps).run P w= .ok v w∧E (.returned v) w
 | .panic c,_,w=>E (.panicked c) w
 | _,_,_=>False
def start:List Value→Nat→List (Nat × Value)
 | [],_=>[]
 | v::l,i=>(i,v)::start l (i+1)
theorem Te (l:List Value):∀ i j,look (start l i) j=if i≤j then l.getD (j - i) undef else undef:=by
 induction l with
 | nil=>intro i j;simp [start,look]
 | cons v l ih =>
  intro i j;simp only [start,look];cases hb:Nat.beq j i with
  | true=>obtain rfl:=Nat.eq_of_beq_eq_true hb;simp
  | false =>
   have hne:j≠i:=fun e=>by subst e;simp at hb
   rw [cond_false,ih]
   by_cases h:i+1≤j
   ·rw [if_pos h,if_pos zo,show j - i=(j - (i+1))+1 by omega];simp
   ·rw [if_neg h,if_neg zo]
theorem enter {P:Program} {f:FuncId} {fn:Func} {c:Code} {l:List Value} {w:World} {E:Ending→World→Prop} {n:Nat} (hf:P.funcs[f]? =some fn) (hb:fn.body=some c) (hn:fn.ntmps=n) (hl':Nat.ble l.length n=true)
  (h:Wc P n (Ends P n fn E) c [] (start l 0) w):Calls P f l.toArray w E:=by
 have hl:l.length≤n:=Nat.le_of_ble_eq_true hl';refine calls_of_wp hf hb (wp_mono (h.out _ ⟨?_,fun i=>?_,rfl⟩) fun e a w hq=>?_)
 ·simp [hn];omega
 ·rw [Te];simp only [Nat.zero_le,if_true,Nat.sub_zero,Array.getD_eq_getD_getElem?, List.getD_eq_getElem?_getD];rw [Array.getElem?_append];split
  ·simp
  ·rename_i hi;have hi':l.length≤i:=by simpa using hi
   rw [List.getElem?_eq_none hi',Array.getElem?_replicate];split<;>rfl
 ·cases e with
  | normal=>obtain ⟨S,hs,hq⟩:=hq;obtain ⟨v,h1,h2⟩:=hq a hs;exact ⟨hs.defers,v,h1,h2⟩
  | ret=>obtain ⟨S,hs,hq⟩:=hq;obtain ⟨v,h1,h2⟩:=hq a hs;exact ⟨hs.defers,v,h1,h2⟩
  | panic ch=>obtain ⟨hd,S,hq⟩:=hq;exact ⟨hd,hq⟩
  | exit id=>obtain ⟨S,hs,hq⟩:=hq;exact hq.elim
  | goto id=>obtain ⟨S,hs,hq⟩:=hq;exact hq.elim
  | outgrown=>obtain ⟨S,hs,hq⟩:=hq;exact hq.elim
end Go.Fw
namespace Go.Fw
open Go Go.RowKit Go.SW Go.Mem
def one (P:Program) (n:Nat) (ops:Array Oper) (S:List (Nat × Value)) (i:Nat) (w:World):Option ((Nat × Value) × World) :=
 match ops[i]? with
 | none=>none
 | some o=>match Region.wanted o (yl ops S) with
  | true=>(match o.dst with
   | some d=>(match Nat.blt d n with
    | true=>(match (execOp (ev S) o).run P w with
     | .ok (.value v) w'=>some ((d,v),w')
     | _=>none)
    | false=>none)
   | none=>none)
  | false=>some (slot n o.dst undef,w)
theorem GD {P:Program} {n:Nat} {ops:Array Oper} {S:List (Nat × Value)} {i:Nat} {w w':World} {x:Nat × Value} (h:one P n ops S i w=some (x,w')) :
  ∃ o,ops[i]? =some o∧((Region.wanted o (yl ops S)=true∧o.dst=some x.1∧x.1<n∧(execOp (ev S) o).run P w= .ok (.value x.2) w')∨(Region.wanted o (yl ops S)=false∧x=slot n o.dst undef∧w'=w)):=by
 unfold one at h;split at h
 ·cases h
 ·rename_i o ho;refine ⟨o,ho,?_⟩;split at h
  ·rename_i hw;split at h
   ·rename_i d hd;split at h
    ·rename_i hb;split at h
     ·rename_i v w1 hr;cases h
      exact .inl ⟨hw,hd,Nat.le_of_ble_eq_true hb,hr⟩
     ·cases h
    ·cases h
   ·cases h
  ·rename_i hw;cases h
   exact .inr ⟨hw,rfl,rfl⟩
theorem xA {n d:Nat} {v:Value} (h:d<n):slot n (some d) v=(d,v):=by
 have e:Nat.blt d n=true:=Nat.ble_eq_true_of_le h;unfold slot;simp only [e];rfl
theorem drop_at {α:Type} {l:List α} {p:Nat} {x:α} (h:l[p]? =some x):l.drop p=x::l.drop (p+1):=by
 obtain ⟨hp,rfl⟩:=List.getElem?_eq_some_iff.1 h;exact List.drop_eq_getElem_cons hp
section
variable (P:Program) (n:Nat) (R:Post) (k:List Kt) (ops:Array Oper)
structure Wo (is:List Nat) (p:Nat) (S:List (Nat × Value)) (w:World):Prop where
 out:∀ a,QK n S a→wpOps P ops (lift n (Cont P n R k)) (is.drop p) a w
structure Wd (is:List (K × Nat)) (p N:Nat) (A:List Nat) (S:List (Nat × Value)) (w:World):Prop where
 out:∀ a,QK n S a→walk P ops (lift n (Cont P n R k)) N (is.drop p) A a w
def stp (is:List Nat) (p:Nat) (w:World) (S:List (Nat × Value)):Option ((Nat × Value) × World):=match is[p]? with
 | some i=>one P n ops S i w
 | none=>none
def BS (is:List Nat) (p:Nat) (w:World) (S:List (Nat × Value)):List (Nat × Value)→List (Option ((Nat × Value) × World))
 | []=>[]
 | _::L=>stp P n ops is (p+L.length) w (L++S)::BS is p w S L
def isPure:K→Bool
 | .pure=>true
 | _=>false
def ab3:K→Bool
 | .ext=>true
 | _=>false
def Zf (f:K→Bool) (is:List (K × Nat)) (p:Nat) (w:World) (S:List (Nat × Value)):Option ((Nat × Value) × World):=match is[p]? with
 | some (kd,i)=>bif f kd then one P n ops S i w else none
 | none=>none
def aG9 (is:List (K × Nat)) (p:Nat) (w:World) (S:List (Nat × Value)):List (Nat × Value)→List (Option ((Nat × Value) × World))
 | []=>[]
 | _::L=>Zf P n ops isPure is (p+L.length) w (L++S)::aG9 is p w S L
def VN (S:List (Nat × Value)) (i:Nat) (w:World):Option (Nat × FuncId × Array Value × World):=match ops[i]? with
 | some o=>(match Region.wanted o (yl ops S),o.dst with
  | true,some d=>(match Nat.blt d n with
   | true=>(match (execOp (ev S) o).run P w with
    | .ok (.enter f args) w'=>some (d,f,args,w')
    | _=>none)
   | false=>none)
  | _,_=>none)
 | none=>none
theorem IJ {S:List (Nat × Value)} {i:Nat} {w w':World} {d:Nat} {f:FuncId} {args:Array Value} (h:VN P n ops S i w=some (d,f,args,w')) :
  ∃ o,ops[i]? =some o∧Region.wanted o (yl ops S)=true∧o.dst=some d∧d<n∧(execOp (ev S) o).run P w= .ok (.enter f args) w':=by
 unfold VN at h;split at h
 ·rename_i o ho;split at h
  ·rename_i d' hw hd;split at h
   ·rename_i hb;split at h
    ·rename_i hr;cases h
     exact ⟨o,ho,hw,hd,Nat.le_of_ble_eq_true hb,hr⟩
    ·cases h
   ·cases h
  ·cases h
 ·cases h
def ent (is:List Nat) (p:Nat) (w:World) (S:List (Nat × Value)):Option (Nat × FuncId × Array Value × World):=match is[p]? with
 | some i=>VN P n ops S i w
 | none=>none
def aq6 (is:List (K × Nat)) (p:Nat) (w:World) (S:List (Nat × Value)):Option (Nat × FuncId × Array Value × World):=match is[p]? with
 | some (kd,i)=>bif ab3 kd then VN P n ops S i w else none
 | none=>none
def as9:TypeDesc→Bool
 | .struct _| .array _ _=>true
 | _=>false
def rdv (T:TypeId) (cs:Array Value) (off:Nat):Option Value:=match P.underlying T with
 | some d=>(match as9 d with
  | true=>(match P.info? T with
   | some i=>(match Nat.ble (off+i.size) cs.size with
    | true=>some (.agg (cs.extract off (off+i.size)))
    | false=>none)
   | none=>none)
  | false=>cs[off]?)
 | none=>none
def ao0 (S:List (Nat × Value)) (i:Nat) (cs:Array Value) (off:Nat):Option (Value × Nat × Value):=match ops[i]? with
 | some o=>(match Region.wanted o (yl ops S),o.dst,o.op with
  | true,some d,.load T x=>(match Nat.blt d n,rdv P T cs off with
   | true,some v=>some (ev S x,d,v)
   | _,_=>none)
  | _,_,_=>none)
 | none=>none
def ld (is:List Nat) (p:Nat) (S:List (Nat × Value)) (cs:Array Value) (off:Nat):Option (Value × Nat × Value):=match is[p]? with
 | some i=>ao0 P n ops S i cs off
 | none=>none
def isRead:K→Bool
 | .read=>true
 | _=>false
def ldD (is:List (K × Nat)) (p:Nat) (S:List (Nat × Value)) (cs:Array Value) (off:Nat):Option (Value × Nat × Value):=match is[p]? with
 | some (kd,i)=>bif isRead kd then ao0 P n ops S i cs off else none
 | none=>none
end
section
variable {P:Program} {n:Nat} {R:Post} {k:List Kt} {ops:Array Oper} {is:List Nat} {p:Nat} {S:List (Nat × Value)} {w:World}
theorem step {x:Nat × Value} {w':World} (h:stp P n ops is p w S=some (x,w')) (hc:Wo P n R k ops is (p+1) (x::S) w'):Wo P n R k ops is p S w:=by
 unfold stp at h;split at h
 ·rename_i i hi;obtain ⟨o,ho,hx⟩:=GD h;refine ⟨fun a ha=>?_⟩;rw [drop_at hi];unfold wpOps;simp only [ho,ha.yl]
  rcases hx with ⟨hw,hd,hlt,hr⟩|⟨hw,hx,rfl⟩
  ·rw [if_pos hw];refine .inl ?_;unfold Oper.wp;rw [ha.eval,hr];simp only [Oper.upon];refine hc.out _ ?_;have:=ha.put o.dst x.2;rw [hd,xA hlt] at this;rw [hd];exact this
  ·rw [if_neg (by rw [hw];decide)];refine hc.out _ ?_;have:=ha.put o.dst undef;rw [← hx] at this;exact this
 ·cases h
theorem run (L:List (Nat × Value)) (h:BS P n ops is p w S L=L.map fun x=>some (x,w)) (hc:Wo P n R k ops is (p+L.length) (L++S) w):Wo P n R k ops is p S w:=by
 induction L with
 | nil=>exact hc
 | cons x L ih =>
  simp only [BS,List.map_cons,List.cons.injEq] at h;exact ih h.2 (step h.1 hc)
theorem new {d:Nat} {cs:Array Value} {T:TypeId} (h:stp P n ops is p w S=some ((d,.pointer (some ⟨w.heap.size,0,none⟩)),w.alloc (.cells cs T (0,0))))
  (hc:∀ b w',w.heap.size≤b→Below w.heap.size w w'→ah w' b cs T→Wo P n R k ops is (p+1) ((d,.pointer (some ⟨b,0,none⟩))::S) w'):Wo P n R k ops is p S w :=
 step h (hc _ _ (Nat.le_refl _) ((Below.refl _ _).alloc (Nat.le_refl _) _) (ah.new _ _ _))
def After (P:Program) (n:Nat) (R:Post) (k:List Kt) (ops:Array Oper) (is:List Nat) (p d:Nat) (S:List (Nat × Value)):Ending→World→Prop
 | .returned v,w=>Wo P n R k ops is (p+1) ((d,v)::S) w
 | .panicked c,w=>Cont P n R k (.panic c) S w
 | .outgrown,_=>False
theorem call {d:Nat} {f:FuncId} {args:Array Value} {E:Ending→World→Prop} (hC:Calls P f args w E) (h:ent P n ops is p w S=some (d,f,args,w))
  (hc:∀ e w',E e w'→After P n R k ops is p d S e w'):Wo P n R k ops is p S w:=by
 unfold ent at h;split at h
 ·rename_i i hi;obtain ⟨o,ho,hw,hd,hlt,hr⟩:=IJ P n ops h;refine ⟨fun a ha=>?_⟩;rw [drop_at hi];unfold wpOps;simp only [ho,ha.yl];rw [if_pos hw];refine .inl ?_;unfold Oper.wp;rw [ha.eval,hr];simp only [Oper.upon];refine hC.mono fun e w' he=>?_;have:=hc e w' he;cases e with
  | returned v =>
   have hp:=ha.put o.dst v;rw [hd,xA hlt] at hp;rw [hd];exact this.out _ hp
  | panicked c=>exact ⟨ha.defers,S,this⟩
  | outgrown=>exact this.elim
 ·cases h
theorem jo {d:Nat} {f:FuncId} {args:Array Value} {v:Value} (hC:Calls P f args w (fun e w'=>e= .returned v∧Below w.heap.size w w')) (h:ent P n ops is p w S=some (d,f,args,w))
  (hc:∀ w',Below w.heap.size w w'→Wo P n R k ops is (p+1) ((d,v)::S) w'):Wo P n R k ops is p S w :=
 call hC h fun e w' he=>by
  obtain ⟨rfl,hb⟩:=he;exact hc w' hb
theorem Pz {w:World} {b:Nat} {cs:Array Value} {T0 T:TypeId} {off:Nat} {v:Value} (hX:ah w b cs T0) (h:rdv P T cs off=some v):(loadVar T ⟨b,off,none⟩).run P w= .ok v w:=by
 have hl:∀ (m i:Nat) (acc:Array Value),off+i+m≤cs.size→(loadCellsFrom ⟨b,off,none⟩ i m acc).run P w= .ok (acc++cs.extract (off+i) (off+i+m)) w:=by
  intro m
  induction m with
  | zero=>intro i acc _;simp [loadCellsFrom];omega
  | succ m ih =>
   intro i acc hm;have hadd:(⟨b,off,none⟩:Addr).add i=⟨b,off+i,none⟩:=by unfold Addr.add;simp
   have hc:w.cell? ⟨b,off+i,none⟩=some cs[off+i]:=by rw [hX.cell];simp
   unfold loadCellsFrom;simp only [Sem.run_bind,hadd,run_load,hc];rw [show Result.andThen _ _=(loadCellsFrom ⟨b,off,none⟩ (i+1) m (acc.push cs[off+i])).run P w from rfl,ih (i+1) _ zo]
   congr 1
   apply Array.ext_getElem?
   intro j;simp only [Array.getElem?_append,Array.getElem?_push,Array.size_push,Array.getElem?_extract]
   rcases Nat.lt_trichotomy j acc.size with h1|h1|h1
   ·simp [h1,Nat.lt_succ_of_lt h1,Nat.ne_of_lt h1]
   ·subst h1;simp
    omega
   ·have h2:¬ j<acc.size:=by omega
    have h3:¬ j<acc.size+1:=by omega
    have h4:j≠acc.size:=by omega
    simp only [h2,h3,if_false];have e1:off+(i+1)+(j - (acc.size+1))=off+i+(j - acc.size):=by omega
    rw [e1];have e2:(j - (acc.size+1)<min (off+(i+1)+m) cs.size - (off+(i+1)))↔(j - acc.size<min (off+i+(m+1)) cs.size - (off+i)):=by omega
    simp only [e2]
 unfold rdv at h;cases hu:P.underlying T with
 | none=>rw [hu] at h;cases h
 | some d =>
  rw [hu] at h;cases hd:as9 d with
  | true =>
   simp only [hd] at h;cases hi:P.info? T with
   | none=>rw [hi] at h;cases h
   | some i =>
    rw [hi] at h;cases hb:Nat.ble (off+i.size) cs.size with
    | false=>simp only [hb] at h;cases h
    | true =>
     simp only [hb] at h;cases h
     have h1:=hl i.size 0 #[] (by have:=Nat.le_of_ble_eq_true hb;omega);simp only [Nat.add_zero,Array.empty_append] at h1;cases d<;>simp [as9] at hd<;>simp [loadVar,isAgg,underlying,hu,loadCells,sizeOf,typeInfo,hi,h1]
  | false =>
   simp only [hd] at h;have hc:w.cell? ⟨b,off,none⟩=some v:=by rw [hX.cell,h]
   cases d<;>simp [as9] at hd<;>simp [loadVar,isAgg,underlying,hu,run_load,hc]
theorem load {b:Nat} {cs:Array Value} {T0:TypeId} {off d:Nat} {v:Value} (hX:ah w b cs T0) (h:ld P n ops is p S cs off=some (.pointer (some ⟨b,off,none⟩),d,v)) (hc:Wo P n R k ops is (p+1) ((d,v)::S) w):Wo P n R k ops is p S w:=by
 refine step (x:=(d,v)) (w':=w) ?_ hc;unfold ld at h;unfold stp;split at h
 ·rename_i i hi;unfold ao0 at h;unfold one;split at h
  ·rename_i o ho;split at h
   ·rename_i d' T x hw hd hop;split at h
    ·rename_i v' hb hv;simp only [Option.some.injEq,Prod.mk.injEq] at h;obtain ⟨hx,rfl,rfl⟩:=h
     have:(execOp (ev S) o).run P w= .ok (.value v') w:=by
      simp only [execOp,hop,hx,Instr.loadAt,Instr.sureAddr,Sem.run_bind,Sem.run_pure,Result.andThen_ok,Pz hX hv]
     simp only [ho,hw,hd,hb,this]
    ·cases h
   ·cases h
  ·cases h
 ·cases h
structure Stored (w w':World) (b:Nat):Prop where
 os:w'.os=w.os
 tape:w'.tape=w.tape
 output:w'.output=w.output
 size:w'.heap.size=w.heap.size
 block:∀ j,j≠b→w'.heap[j]? =w.heap[j]?
theorem Stored.refl (w:World) (b:Nat):Stored w w b:=⟨rfl,rfl,rfl,rfl,fun _ _=>rfl⟩
theorem Stored.set {w w':World} {b:Nat} (h:Stored w w' b) (o:Nat) (u:Value):Stored w (w'.setCell ⟨b,o,none⟩ u) b :=
 ⟨h.os,h.tape,h.output,by simp [World.setCell,h.size],fun j hj=>(Below.heap_setCell w' ⟨b,o,none⟩ u j hj).trans (h.block j hj)⟩
theorem Stored.below {a w w':World} {b:Nat} (h:Stored w w' b) (ha:Below a.heap.size a w) (hb:a.heap.size≤b):Below a.heap.size a w' :=
 ⟨h.os.trans ha.os,h.tape.trans ha.tape,h.output.trans ha.output,by rw [h.size];exact ha.size,fun j hj=>(h.block j zo).trans (ha.block j hj)⟩
theorem Stored.box {w w':World} {b b':Nat} {cs:Array Value} {T:TypeId} (h:Stored w w' b) (hX:ah w b' cs T) (hne:b'≠b):ah w' b' cs T:=(h.block b' hne).trans hX
def putCells (cs:Array Value) (off:Nat):List Value→Array Value
 | []=>cs
 | v::l=>putCells (cs.setIfInBounds off v) (off+1) l
theorem WU {b:Nat} {T0:TypeId}:∀ (vs:List Value) (off i:Nat) (cs:Array Value) (w:World),ah w b cs T0→off+i+vs.length≤cs.size→(vs.all (·.oneCell'))=true →
  ∃ w',(storeCells ⟨b,off,none⟩ vs i).run P w= .ok () w'∧Stored w w' b∧ah w' b (putCells cs (off+i) vs) T0:=by
 intro vs
 induction vs with
 | nil=>intro off i cs w hX _ _;exact ⟨w,by simp [storeCells],Stored.refl w b,hX⟩
 | cons v vs ih =>
  intro off i cs w hX hl h1;simp only [List.all_cons,Bool.and_eq_true] at h1;simp only [List.length_cons] at hl;have hadd:(⟨b,off,none⟩:Addr).add i=⟨b,off+i,none⟩:=by unfold Addr.add;simp
  obtain ⟨w',e1,e2,e3⟩:=ih off (i+1) (cs.setIfInBounds (off+i) v) (w.setCell ⟨b,off+i,none⟩ v) (hX.set _ _) (by simp;omega) h1.2;refine ⟨w',?_,⟨e2.os,e2.tape,e2.output,e2.size.trans (by simp [World.setCell]),fun j hj=>(e2.block j hj).trans (Below.heap_setCell w ⟨b,off+i,none⟩ v j hj)⟩,?_⟩
  ·have hcell:w.cell? ⟨b,off+i,none⟩=some cs[off+i]:=by rw [hX.cell];simp
   have hfro:w.frozen? ⟨b,off+i,none⟩=false:=hX.free _
   have hst:(store (⟨b,off+i,none⟩:Addr) v).run P w= .ok () (w.setCell ⟨b,off+i,none⟩ v):=by
    rw [run_store P w _ v _ h1.1,hcell];simp [hfro]
   unfold storeCells;simp only [Sem.run_bind,hadd,hst,Result.andThen_ok,e1]
  ·exact e3
def az7 (P:Program) (n:Nat) (ops:Array Oper) (S:List (Nat × Value)) (i:Nat) (cs:Array Value) (off:Nat):Option (Value × Array Value):=match ops[i]? with
 | some o=>(match Region.wanted o (yl ops S),o.dst,o.op with
  | true,none,.store T x y=>(match P.info? T with
   | some f=>(match Nat.beq (ev S y).cells.size f.size,Nat.ble (off+f.size) cs.size,(ev S y).cells.toList.all (·.oneCell') with
    | true,true,true=>some (ev S x,putCells cs off (ev S y).cells.toList)
    | _,_,_=>none)
   | none=>none)
  | _,_,_=>none)
 | none=>none
theorem aj8 {S:List (Nat × Value)} {i:Nat} {b off:Nat} {cs cs':Array Value} {T0:TypeId} {w:World} {w0:Value} (hw0:w0= .pointer (some ⟨b,off,none⟩)) (hX:ah w b cs T0) (h:az7 P n ops S i cs off=some (w0,cs')) :
  ∃ o w',ops[i]? =some o∧Region.wanted o (yl ops S)=true∧o.dst=none∧(execOp (ev S) o).run P w= .ok .skip w'∧Stored w w' b∧ah w' b cs' T0:=by
 unfold az7 at h;split at h
 ·rename_i o ho;split at h
  ·rename_i T x y hw hd hop;split at h
   ·rename_i f hf;split at h
    ·rename_i h1 h2 h3;simp only [Option.some.injEq,Prod.mk.injEq] at h;obtain ⟨hx,rfl⟩:=h;have hs:(ev S y).cells.size=f.size:=Nat.eq_of_beq_eq_true h1;have hle:=Nat.le_of_ble_eq_true h2;obtain ⟨w',e1,e2,e3⟩:=WU (P:=P) (ev S y).cells.toList off 0 cs w hX (by simp;omega) h3;refine ⟨o,w',ho,hw,hd,?_,e2,e3⟩;simp [execOp,hop,hx,hw0,Instr.storeAt,Instr.sureAddr,storeVar,sizeOf,typeInfo,hf,hs,e1]
    ·cases h
   ·cases h
  ·cases h
 ·cases h
theorem store {b off:Nat} {cs cs':Array Value} {T0:TypeId} (hX:ah w b cs T0) (h:(match is[p]? with|some i=>az7 P n ops S i cs off|none=>none)=some (.pointer (some ⟨b,off,none⟩),cs'))
  (hc:∀ w',Stored w w' b→ah w' b cs' T0→Wo P n R k ops is (p+1) S w'):Wo P n R k ops is p S w:=by
 split at h
 ·rename_i i hi;obtain ⟨o,w',ho,hw,hd,hr,h1,h2⟩:=aj8 rfl hX h;refine ⟨fun a ha=>?_⟩;rw [drop_at hi];unfold wpOps;simp only [ho,ha.yl];rw [if_pos hw];refine .inl ?_;unfold Oper.wp;rw [ha.eval,hr];simp only [Oper.upon,hd];exact (hc w' h1 h2).out _ ha
 ·cases h
def aq5 (P:Program) (n:Nat) (ops:Array Oper) (S:List (Nat × Value)) (i:Nat):Option (Bool × TypeId × Value × Value × Nat):=match ops[i]? with
 | some o=>(match Region.wanted o (yl ops S),o.dst,o.op with
  | true,some d,.binOp op T x y _=>(match Nat.blt d n,P.eqGuardType P.depth T,ev S x,ev S y with
   | true,false,.agg u,.agg v=>(match op with
    | .eql=>some (true,T,.agg u,.agg v,d)
    | .neq=>some (false,T,.agg u,.agg v,d)
    | _=>none)
   | _,_,_,_=>none)
  | _,_,_=>none)
 | none=>none
theorem VL {S:List (Nat × Value)} {i:Nat} {T:TypeId} {x y:Value} {d:Nat} {b e:Bool} {w:World} (h:aq5 P n ops S i=some (b,T,x,y,d)) (he:(Op.equal T x y).run P w= .ok e w) :
  one P n ops S i w=some ((d,.bool (b == e)),w):=by
 unfold aq5 at h;unfold one;split at h
 ·rename_i o ho;simp only [ho];split at h
  ·rename_i d' op T' xo yo pos hw hd hop;split at h
   ·rename_i u v hb hg hx hy;split at h<;>cases h<;>simp only [hw,hd,hb,execOp,hop,hx,hy,eqGuard,binOp]<;>simp [hg,he]
   ·cases h
  ·cases h
 ·cases h
theorem eql {T:TypeId} {x y:Value} {d:Nat} {b e:Bool} (h:(match is[p]? with|some i=>aq5 P n ops S i|none=>none)=some (b,T,x,y,d)) (he:(Op.equal T x y).run P w= .ok e w)
  (hc:Wo P n R k ops is (p+1) ((d,.bool (b == e))::S) w):Wo P n R k ops is p S w:=by
 refine step (x:=(d,.bool (b == e))) (w':=w) ?_ hc;split at h
 ·rename_i i hi;unfold stp;simp only [hi];exact VL h he
 ·cases h
theorem done (h:is.drop p=[]) (hc:Nx P n R .normal k S w):Wo P n R k ops is p S w:=⟨fun a ha=>by rw [h];exact zY ha hc.out⟩
theorem region {id:Nat} (is:List Nat) (hi:List.range ops.size=is) (h:Wo P n R k ops is 0 S w):Wc P n R (.region id ops false) k S w :=
 ⟨fun a ha=>wp_region (by have:=h.out a ha;rw [hi];exact this)⟩
end
/-! ### A region whose order is drawn -/
section
variable {P:Program} {n:Nat} {R:Post} {k:List Kt} {ops:Array Oper} {is:List (K × Nat)} {p N:Nat} {A:List Nat} {S:List (Nat × Value)} {w:World}
theorem mO {id:Nat} (is:List (K × Nat)) (hm:P.follows .mixedOrders=true) (hc:check ops is=true) (hal:is.map (probe P ops)=is.map want) (h:∀ w',Below w.heap.size w w'→w'.heap.size=w.heap.size→Wd P n R k ops is 0 w.heap.size [] S w') :
  Wc P n R (.region id ops true) k S w :=
 ⟨fun a ha=>aC is hm hc (Ar hal) (fun c a s w hs h=>Tf c a s w hs h) ((h w.drew (Below.drew (Below.refl _ _)) rfl).out a ha)⟩
theorem aw7 {x:Nat × Value} (h:∀ w',Zf P n ops isPure is p w' S=some (x,w')) (hc:Wd P n R k ops is (p+1) N A (x::S) w):Wd P n R k ops is p N A S w:=by
 have h0:=h w;unfold Zf at h0;split at h0
 ·rename_i kd i hi;cases kd<;>simp only [isPure,cond_true,cond_false] at h0<;>try cases h0
  obtain ⟨o,ho,hx⟩:=GD h0;refine ⟨fun a ha=>?_⟩;rw [drop_at hi];unfold walk;simp only [ho,ha.yl]
  rcases hx with ⟨hw,hd,hlt,hr⟩|⟨hw,hx, -⟩
  ·rw [if_pos hw];refine ⟨x.2,fun w'=>?_,hc.out _ ?_⟩
   ·have h1:=h w';unfold Zf at h1;simp only [hi,isPure,cond_true] at h1;obtain ⟨o',ho',hx'⟩:=GD h1;rw [ho] at ho';cases ho'
    rcases hx' with ⟨_,_,_,hr'⟩|⟨hw',_,_⟩
    ·rw [ha.eval];exact hr'
    ·rw [hw] at hw';cases hw'
   ·have:=ha.put o.dst x.2;rw [hd,xA hlt] at this;rw [hd];exact this
  ·rw [if_neg (by rw [hw];decide)];refine hc.out _ ?_;have:=ha.put o.dst undef;rw [← hx] at this;exact this
 ·cases h0
theorem mV (L:List (Nat × Value)) (h:∀ w',aG9 P n ops is p w' S L=L.map fun x=>some (x,w')) (hc:Wd P n R k ops is (p+L.length) N A (L++S) w):Wd P n R k ops is p N A S w:=by
 induction L with
 | nil=>exact hc
 | cons x L ih =>
  simp only [aG9,List.map_cons,List.cons.injEq] at h;exact ih (fun w'=>(h w').2) (aw7 (fun w'=>(h w').1) hc)
theorem jN {b:Nat} {cs:Array Value} {T0:TypeId} {off d:Nat} {v:Value} (hX:ah w b cs T0) (h:ldD P n ops is p S cs off=some (.pointer (some ⟨b,off,none⟩),d,v)) (hc:Wd P n R k ops is (p+1) N A ((d,v)::S) w):Wd P n R k ops is p N A S w:=by
 unfold ldD at h;split at h
 ·rename_i kd i hi;cases kd<;>simp only [isRead,cond_true,cond_false] at h<;>try cases h
  unfold ao0 at h;split at h
  ·rename_i o ho;split at h
   ·rename_i d' T x hw hd hop;split at h
    ·rename_i v' hb hv;simp only [Option.some.injEq,Prod.mk.injEq] at h;obtain ⟨hx,rfl,rfl⟩:=h;refine ⟨fun a ha=>?_⟩;rw [drop_at hi];unfold walk;simp only [ho,ha.yl,hw,if_true];refine ⟨v',fun w' hb'=>?_,hc.out _ ?_⟩
     ·rw [ha.eval];simp only [execOp,hop,hx,Instr.loadAt,Instr.sureAddr,Sem.run_bind,Sem.run_pure,Result.andThen_ok,Pz (hX.later hb') hv]
     ·have:=ha.put o.dst v';rw [hd,xA (Nat.le_of_ble_eq_true hb)] at this;rw [hd];exact this
    ·cases h
   ·cases h
  ·cases h
 ·cases h
theorem Dc {cs:Array Value} {T:TypeId} {d:Nat} (h:(match is[p]? with|some (.alloc cs' T',i)=>(ops[i]?).map fun o=>(cs',T',o.dst,Nat.blt d n)| _=>none)=some (cs,T,some d,true))
  (hc:∀ b w',Below w.heap.size w w'→N≤b→b∉A→ah w' b cs T→Wd P n R k ops is (p+1) N (b::A) ((d,.pointer (some ⟨b,0,none⟩))::S) w'):Wd P n R k ops is p N A S w:=by
 split at h
 ·rename_i cs' T' i hi;cases ho:ops[i]? with
  | none=>rw [ho] at h;cases h
  | some o =>
   simp only [ho,Option.map_some,Option.some.injEq,Prod.mk.injEq] at h;obtain ⟨rfl,rfl,hd,hb⟩:=h;refine ⟨fun a ha=>?_⟩;rw [drop_at hi];refine jK ho fun b w' h1 h2 h3 h4 h5=>(hc b w' h1 h2 h4 h5).out _ ?_;have:=ha.put o.dst (.pointer (some ⟨b,0,none⟩));rw [hd,xA (Nat.le_of_ble_eq_true hb)] at this;rw [hd];exact this
 ·cases h
def aM3 (P:Program) (n:Nat) (R:Post) (k:List Kt) (ops:Array Oper) (is:List (K × Nat)) (p N:Nat) (A:List Nat) (d:Nat) (S:List (Nat × Value)) (w0:World):Ending→World→Prop
 | .returned v,w=>Below w0.heap.size w0 w∧Wd P n R k ops is (p+1) N A ((d,v)::S) w
 | .panicked c,w=>Cont P n R k (.panic c) S w
 | .outgrown,_=>False
theorem bh2 {d:Nat} {f:FuncId} {args:Array Value} {E:World→Ending→World→Prop} (hC:∀ w',Below w.heap.size w w'→Calls P f args w' (E w')) (h:∀ w',aq6 P n ops is p w' S=some (d,f,args,w'))
  (hc:∀ w',Below w.heap.size w w'→∀ e w'',E w' e w''→aM3 P n R k ops is p N A d S w' e w''):Wd P n R k ops is p N A S w:=by
 have h0:=h w;unfold aq6 at h0;split at h0
 ·rename_i kd i hi;cases kd<;>simp only [ab3,cond_true,cond_false] at h0<;>try cases h0
  obtain ⟨o,ho,hw,hd,hlt, -⟩:=IJ P n ops h0;refine ⟨fun a ha=>?_⟩;rw [drop_at hi];refine KE ho (by rw [ha.yl];exact hw) fun w' hb J hJ=>?_;have h1:=h w';unfold aq6 at h1;simp only [hi,ab3,cond_true] at h1;obtain ⟨o',ho', -, -, -, hr⟩:=IJ P n ops h1;rw [ho] at ho';cases ho'
  unfold Oper.wp;rw [ha.eval,hr];simp only [Oper.upon];refine (hC w' hb).mono fun e w'' he=>?_;have:=hc w' hb e w'' he;cases e with
  | returned v =>
   have hp:=ha.put o.dst v;rw [hd,xA hlt] at hp;rw [hd];exact hJ _ _ this.1 (this.2.out _ hp)
  | panicked c=>exact ⟨ha.defers,S,this⟩
  | outgrown=>exact this.elim
 ·cases h0
theorem iE {d:Nat} {f:FuncId} {args:Array Value} {v:Value} (hC:∀ w',Below w.heap.size w w'→Calls P f args w' (fun e w''=>e= .returned v∧Below w'.heap.size w' w'')) (h:∀ w',aq6 P n ops is p w' S=some (d,f,args,w'))
  (hc:∀ w',Below w.heap.size w w'→Wd P n R k ops is (p+1) N A ((d,v)::S) w'):Wd P n R k ops is p N A S w :=
 bh2 hC h fun w' hb e w'' he=>by
  obtain ⟨rfl,hb2⟩:=he;exact ⟨hb2,hc w'' (Bt hb hb2)⟩
theorem aq4 {T:TypeId} {x y:Value} {d:Nat} {b e:Bool} (h:(match is[p]? with|some (.pure,i)=>aq5 P n ops S i| _=>none)=some (b,T,x,y,d)) (he:∀ w',(Op.equal T x y).run P w'= .ok e w')
  (hc:Wd P n R k ops is (p+1) N A ((d,.bool (b == e))::S) w):Wd P n R k ops is p N A S w:=by
 refine aw7 (x:=(d,.bool (b == e))) (fun w'=>?_) hc;split at h
 ·rename_i i hi;unfold Zf;simp only [hi,isPure,cond_true];exact VL h (he w')
 ·cases h
theorem BP {js:List Nat} (hk:(match is[p]? with|some (.fin,i)=>(ops[i]?).isSome| _=>false)=true) (hj:(is.drop p).map (·.2)=js) (hc:∀ w',Below w.heap.size w w'→Wo P n R k ops js 0 S w'):Wd P n R k ops is p N A S w:=by
 split at hk
 ·rename_i i hi;refine ⟨fun a ha=>?_⟩;have e:=drop_at hi;rw [e] at hj ⊢;unfold walk;obtain ⟨o,ho⟩:=Option.isSome_iff_exists.1 hk;simp only [ho];intro w' hb;have:=(hc w' hb).out a ha;rw [← hj] at this;exact this
 ·cases hk
theorem doneD (h:is.drop p=[]) (hc:∀ w',Below w.heap.size w w'→Nx P n R .normal k S w'):Wd P n R k ops is p N A S w:=⟨fun a ha=>by
 rw [h];exact fun w' hb=>zY ha (hc w' hb).out⟩
end
theorem yG {P:Program} {n:Nat} {R:Post} {k:List Kt} {ops:Array Oper} {is:List Nat} {p d:Nat} {S:List (Nat × Value)} {w:World} {b:Bool} (c:Bool) (hb:b=c) (h:Wo P n R k ops is p ((d,.bool c)::S) w):Wo P n R k ops is p ((d,.bool b)::S) w:=hb ▸ h
theorem wrap_i64 {z:Int} (h1: -9223372036854775808≤z) (h2:z≤9223372036854775807):Value.int .i64 (IntKind.i64.wrap z)= .int .i64 z:=by
 rw [show IntKind.i64.wrap z=z by unfold IntKind.wrap;simp [IntKind.bits,IntKind.signed];omega]
theorem splitB {P:Program} {n:Nat} {R:Post} {k:List Kt} {ops:Array Oper} {is:List Nat} {p d:Nat} {S:List (Nat × Value)} {w:World} {b:Bool} (h1:b=true→Wo P n R k ops is p ((d,.bool true)::S) w) (h2:b=false→Wo P n R k ops is p ((d,.bool false)::S) w):Wo P n R k ops is p ((d,.bool b)::S) w:=by
 cases b
 ·exact h2 rfl
 ·exact h1 rfl
theorem aA7 {P:Program} {n:Nat} {R:Post} {k:List Kt} {S:List (Nat × Value)} {w:World} (h:R .ret S w):Nx P n R .ret k S w:=⟨by
 induction k with
 | nil=>exact h
 | cons x k ih=>cases x<;>exact ih⟩
theorem al6 {P:Program} {n:Nat} {fn:Func} {E:Ending→World→Prop} {k:List Kt} {S:List (Nat × Value)} {w:World} {t:Tmp} {v:Value} (hr:fn.results=#[.tmp t]) (hv:look S t=v) (h:E (.returned v) w):Wc P n (Ends P n fn E) .ret k S w :=
 ret (aA7 fun a ha=>⟨v,by rw [results_tmp hr,ha.get t,hv],h⟩)
end Go.Fw
