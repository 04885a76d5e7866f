/- Lemmas for the proof. No condition. -/
import Derived.Test.YtbngfhgoeoncmaaGreatDoorWB04
import Derived.Laws.MakeOwn
import Derived.RangeFuncBox
import Derived.Laws.CopyOwn
import Derived.MapKept
import Derived.Recover
import Derived.ChangeKeysEq
import Derived.ChangeSame
import Derived.ChangeVars
set_option linter.unusedVariables false
set_option linter.unusedSimpArgs false
set_option maxRecDepth 100000
set_option maxHeartbeats 16000000
open Array renaming getElem?_eq_none → bQ
open Bool renaming and_eq_true → aF, eq_iff_iff → iZ, false_eq_true → cK
open Go.Ending renaming returned → aj
open Go.IntKind renaming i64 → I
open Go.Value renaming agg → aB, bool → ak, int → Z, pointer → ay, slice → ah, string → O, tuple → aD
open List renaming all_eq_true → dI, getD_eq_getElem?_getD → cO, getElem?_append_left → eO, getElem_mem → dx, length_cons → aV, length_eq_zero_iff → Ii, range → dB, replicate → bJ, take_succ_eq_append_getElem → iq
open List.cons renaming injEq → jc
open Nat renaming div_eq_of_lt → fD, eq_zero_or_pos → aY, le_refl → aC, le_trans → au, lt_of_lt_of_le → aP, lt_or_ge → aH, mod_eq_of_lt → fQ, mod_lt → gH, mul_pos → gV, strongRecOn → gN, zero_add → dP
open Prod.mk renaming injEq → fP
namespace Go.Proofs.fB
open Go Go.RowKit Go.SW Go.Num Go.Mem Go.Proofs Go.fG
def QH (a:Int × Int) (k:Nat):Int:=if k / 2=0 then a.1 else a.2
def N9 (b:Int × Int) (k:Nat):Int:=if k%2=0 then b.1 else b.2
def xC (Q:Int→Int→Bool→Int × Bool) (a b:Int × Int) (k:Nat):Int × Bool:=Q (QH a k) (N9 b k) false
def xE (Q:Int→Int→Bool→Int × Bool) (a b:Int × Int) (k:Nat):Int × Bool:=Q (QH a k) (N9 b k) true
def WT (Q:Int→Int→Bool→Int × Bool) (a b:Int × Int):Bool:=(dB 4).all fun k=>(xC Q a b k).2&&(xE Q a b k).2
def vM (Q:Int→Int→Bool→Int × Bool) (a b:Int × Int):(Int × Int) × Int:=if WT Q a b then jK ([(xC Q a b 0).1,(xC Q a b 1).1,(xC Q a b 2).1,(xC Q a b 3).1].foldl min (xC Q a b 0).1) ([(xE Q a b 0).1,(xE Q a b 1).1,(xE Q a b 2).1,(xE Q a b 3).1].foldl max (xE Q a b 0).1) else ((0,0),6)
def Tg (f:Nat→Int × Bool) (k q:Nat):Int:=if q<k then (f q).1 else 0
def BD (f:Nat→Int × Bool) (k:Nat):Array Value:=#[Z I (Tg f k 0),Z I (Tg f k 1),Z I (Tg f k 2),Z I (Tg f k 3)]
theorem aA.aS6 (w:World) (o o2 o3 o4:Obj) (cs:Array Value) (T:TypeId):aA (((((w.alloc o).alloc o2).alloc o3).alloc o4).alloc (.cells cs T (0,0))) (w.heap.size+1+1+1+1) cs T:=aA.yO zi
theorem aM9 (w:World) (c0:Array Value) (T0:TypeId) (c1:Array Value) (T1:TypeId) (c2:Array Value) (T2:TypeId) (c3:Array Value) (T3:TypeId) (c4:Array Value) (T4:TypeId):∃ y,((((w.alloc (.cells c0 T0 (0,0))).alloc (.cells c1 T1 (0,0))).alloc (.cells c2 T2 (0,0))).alloc (.cells c3 T3 (0,0))).alloc (.cells c4 T4 (0,0))=y∧Bw w y∧Hid (aA y (w.heap.size) c0 T0)∧Hid (aA y (w.heap.size+1) c1 T1)∧Hid (aA y (w.heap.size+1+1) c2 T2)∧Hid (aA y (w.heap.size+1+1+1) c3 T3)∧Hid (aA y (w.heap.size+1+1+1+1) c4 T4):=⟨_,rfl,bL (bL (bL (bL (bL (Below.refl _ _) _) _) _) _) _,zh (aA.alloc (aA.alloc (aA.alloc (aA.alloc (aA.new _ _ _) _) _) _) _),zh (aA.alloc (aA.alloc (aA.alloc (aA.qW _ _ _ _) _) _) _),zh (aA.alloc (aA.alloc (aA.at2 _ _ _ _ _) _) _),zh (aA.alloc (aA.at3 _ _ _ _ _ _) _),zh (aA.aS6 _ _ _ _ _ _ _)⟩
structure Oc (Q:Int→Int→Bool→Int × Bool) (w0:World) (a b:Int × Int) (wr:World) (k:Nat):Prop where
 ba:aA wr w0.heap.size #[Z I a.1,Z I a.2] 26
 bb:aA wr (w0.heap.size+1) #[Z I b.1,Z I b.2] 26
 br:aA wr (w0.heap.size+1+1) #[Z I 0,Z I 0] 26
 bl:aA wr (w0.heap.size+1+1+1) (BD (xC Q a b) k) 164
 bh:aA wr (w0.heap.size+1+1+1+1) (BD (xE Q a b) k) 164
 bw:Bw w0 wr
 ok:∀ q,q<k→(xC Q a b q).2=true∧(xE Q a b q).2=true
theorem Oc.later {Q:Int→Int→Bool→Int × Bool} {w0 wr w':World} {a b:Int × Int} {k:Nat} (h:Oc Q w0 a b wr k) (hb:Bw wr w'):Oc Q w0 a b w' k :=
 ⟨h.ba.later hb,h.bb.later hb,h.br.later hb,h.bl.later hb,h.bh.later hb,Bt h.bw hb,h.ok⟩
theorem Nn (f:Nat→Int × Bool) {k:Nat} (hk:k<4):(BD f k).setIfInBounds k (Z I (f k).1)=BD f (k+1):=by
 have:k=0∨k=1∨k=2∨k=3:=by omega
 rcases this with rfl|rfl|rfl|rfl<;>simp [BD,Tg]
theorem Oc.step {Q:Int→Int→Bool→Int × Bool} {w0 wr:World} {a b:Int × Int} {k:Nat} (h:Oc Q w0 a b wr k) (hk:k<4) (h1:(xC Q a b k).2=true) (h2:(xE Q a b k).2=true) :
  Oc Q w0 a b ((wr.setCell ⟨w0.heap.size+1+1+1,k,none⟩ (Z I (xC Q a b k).1)).setCell ⟨w0.heap.size+1+1+1+1,k,none⟩ (Z I (xE Q a b k).1)) (k+1) where
 ba:=aA.setOther (aA.setOther h.ba _ (by first|(simp;done)|(simp;omega))) _ (by first|(simp;done)|(simp;omega))
 bb:=aA.setOther (aA.setOther h.bb _ (by first|(simp;done)|(simp;omega))) _ (by first|(simp;done)|(simp;omega))
 br:=aA.setOther (aA.setOther h.br _ zi) _ (by first|(simp;done)|(simp;omega))
 bl:=by
  have:=aA.setOther (h.bl.set k (Z I (xC Q a b k).1)) (a:=⟨w0.heap.size+1+1+1+1,k,none⟩) (Z I (xE Q a b k).1) zi
  rwa [Nn _ hk] at this
 bh:=by
  have:=(aA.setOther h.bh (a:=⟨w0.heap.size+1+1+1,k,none⟩) (Z I (xC Q a b k).1) zi).set k (Z I (xE Q a b k).1)
  rwa [Nn _ hk] at this
 bw:=(h.bw.setCell (p:=⟨w0.heap.size+1+1+1,k,none⟩) (by simp;omega) _).setCell (p:=⟨w0.heap.size+1+1+1+1,k,none⟩) (by simp;omega) _
 ok:=fun q hq=>by
  rcases aH q k with h'|h'
  ·exact h.ok q h'
  ·obtain rfl:q=k:=by omega
   exact ⟨h1,h2⟩
theorem Q9 (f:Nat→Int × Bool) (j:Nat) (h:j<[(f 0).1,(f 1).1,(f 2).1,(f 3).1].length):(BD f 4)[j]? =some (.int .i64 [(f 0).1,(f 1).1,(f 2).1,(f 3).1][j]):=by
 have:j=0∨j=1∨j=2∨j=3:=by have:j<4:=h;omega
 rcases this with rfl|rfl|rfl|rfl<;>simp [BD,Tg]
theorem YM {Q:Int→Int→Bool→Int × Bool} {a b:Int × Int} {k:Nat} (hk:k<4) (h:(xC Q a b k).2=false∨(xE Q a b k).2=false):vM Q a b=((0,0),6):=by
 unfold vM;rw [if_neg];intro hf;unfold WT at hf;have:=List.all_eq_true.1 hf k (by simp [hk])
 rcases h with h|h<;>simp [h] at this
theorem yG (Q:Int→Int→Bool→Int × Bool) (F:FuncId) (fr:Array Value) (x y z t:Int) (w:World)
  (HC:∀ k up W,Bw w W→Calls Tryz.prog F (#[Z I (QH (x,y) k),Z I (N9 (z,t) k),ak up]++fr) W (fun e w'=>e= aj (aD #[Z I (Q (QH (x,y) k) (N9 (z,t) k) up).1,ak (Q (QH (x,y) k) (N9 (z,t) k) up).2])∧Bw W w'))
  (hen:∀ args W,(callFunc F args).run Tryz.prog W= .ok (.enter F args) W) :
  Calls Tryz.prog 55 #[aB #[Z I x,Z I y],aB #[Z I z,Z I t],.func (.func F) #[] fr] w (fun e w'=>e= aj (jg (vM Q (x,y) (z,t)))∧Bw w w'):=by
 have HL:Hid (∀ k W,Bw w W→Calls Tryz.prog F (#[Z I (QH (x,y) k),Z I (N9 (z,t) k),ak false]++fr) W (fun e w'=>e= aj (aD #[Z I (xC Q (x,y) (z,t) k).1,ak (xC Q (x,y) (z,t) k).2])∧Bw W w')):=zh fun k W h=>HC k false W h;have HH:Hid (∀ k W,Bw w W→Calls Tryz.prog F (#[Z I (QH (x,y) k),Z I (N9 (z,t) k),ak true]++fr) W (fun e w'=>e= aj (aD #[Z I (xE Q (x,y) (z,t) k).1,ak (xE Q (x,y) (z,t) k).2])∧Bw W w')):=zh fun k W h=>HC k true W h;clear HC;have HN:=zh (fun k (hk:k<4) h=>YM (Q:=Q) (a:=(x,y)) (b:=(z,t)) (k:=k) hk h);obtain ⟨⟨⟨s1,s2⟩,s3⟩,es⟩:∃ s,vM Q (x,y) (z,t)=s:=⟨_,rfl⟩;rw [es];have HS:=zh es;unfold jg;clear es;go_enter Tryz.func55,Tryz.ntmps55
 go_wp2_with fail
 go_step3
 go_wp2_with fail
 go_step3
 go_wp2_with fail
 obtain ⟨w0,EW,hb,X3,X4,X6,X8,X9⟩:=aM9 w #[Z I x,Z I y] 26 #[Z I z,Z I t] 26 #[Z I 0,Z I 0] 26 #[Z I 0,Z I 0,Z I 0,Z I 0] 164 #[Z I 0,Z I 0,Z I 0,Z I 0] 164;rw [EW];clear EW;have HS0:Hid (Oc Q w (x,y) (z,t) w0 0):=zh ⟨X3.out,X4.out,X6.out,X8.out,X9.out,hb,fun q h=>absurd h zo⟩;clear X3 X4 X6 X8 X9 hb
 go_loopw [10,24] (fun fv iv wr=>∃ i:Int,fv= ak true∧iv= Z I i∧Hid ((i=0∧Oc Q w (x,y) (z,t) wr 0)∨(i=1∧Oc Q w (x,y) (z,t) wr 2)∨(i=2∧Oc Q w (x,y) (z,t) wr 4))) (fun _ iv _=>2 - (intOf iv).toNat)
 case atStart=>exact ⟨0,rfl,rfl,zh (.inl ⟨rfl,HS0.out⟩)⟩
 case round =>
  clear HS0;obtain ⟨i,rfl,rfl,HI⟩:=hrel
  rcases HI.out with ⟨rfl,hS⟩|⟨rfl,hS⟩|⟨rfl,hS⟩
  ·clear HI;have hix:∀ W,(Instr.index 165 (aB #[Z I x,Z I y]) (Z I 0)).run Tryz.prog W= .ok (Z I x) W:=fun W=>by kernel_rfl
   obtain ⟨c4,l4⟩:=(zh hS.bb).cl;have HS0:=zh hS;clear hS;go_wp2_with fail
   clear hix c4 l4
   go_loopw [10,33] (fun fv jv wr=>∃ j:Int,fv= ak true∧jv= Z I j∧Hid ((j=0∧Oc Q w (x,y) (z,t) wr 0)∨(j=1∧Oc Q w (x,y) (z,t) wr 1)∨(j=2∧Oc Q w (x,y) (z,t) wr 2))) (fun _ jv _=>2 - (intOf jv).toNat)
   case atStart=>exact ⟨0,rfl,rfl,zh (.inl ⟨rfl,HS0.out⟩)⟩
   case round =>
    clear HS0;obtain ⟨j,rfl,rfl,HJ⟩:=hrel
    rcases HJ.out with ⟨rfl,hS⟩|⟨rfl,hS⟩|⟨rfl,hS⟩
    ·clear HJ;obtain ⟨⟨l1,l2⟩,el⟩:∃ v,xC Q (x,y) (z,t) 0=v:=⟨_,rfl⟩;obtain ⟨⟨h1,h2⟩,eh⟩:∃ v,xE Q (x,y) (z,t) 0=v:=⟨_,rfl⟩;have Qc:=zh (HL.out 0);have Qd:=zh (HH.out 0);rw [el] at Qc;rw [eh] at Qd;have EL:=zh (And.intro el eh);have NJ:=zh hS;clear el eh hS;have O9:∀ W,(Instr.index 165 (aB #[Z I z,Z I t]) (Z I 0)).run Tryz.prog W= .ok (Z I z) W:=fun W=>by kernel_rfl
     go_wp2_with fail
     refine (Qc.out _ NJ.out.bw).mono ?_;rintro e w1 ⟨rfl,hb⟩;have Qb:=zh (NJ.out.later hb);clear hb O9 Qc NJ;go_wp2_with fail
     refine (Qd.out _ Qb.out.bw).mono ?_;rintro e w2 ⟨rfl,hb⟩;have oL:=zh (Qb.out.later hb);clear hb Qd Qb;cases l2
     ·obtain ⟨rfl,rfl,rfl⟩:s1=0∧s2=0∧s3=6:=by have h:=HS.out;rw [HN.out 0 zo (by rw [EL.out.1];exact .inl rfl)] at h;cases h;exact ⟨rfl,rfl,rfl⟩
      obtain ⟨c6,l6,f6⟩:=(zh oL.out.br).clf;go_wp2_with fail
      rw [Exit.noGoto_ret];exact bodyPost_ret (v:=aD #[aB #[Z I 0,Z I 0],Z I 6]) (by have h6:=((oL.out.br.set 0 (Z I 0)).set 1 (Z I 0)).cell;have ME:=h6 0;have FN:=h6 1;simp [results,Tryz.results55,go_sem,ME,FN]) rfl ⟨rfl,(oL.out.bw.setCell (p:=⟨w.heap.size+1+1,0,none⟩) (by simp;omega) _).setCell (p:=⟨w.heap.size+1+1,1,none⟩) (by simp;omega) _⟩
     ·cases h2
      ·obtain ⟨rfl,rfl,rfl⟩:s1=0∧s2=0∧s3=6:=by have h:=HS.out;rw [HN.out 0 zo (by rw [EL.out.2];exact .inr rfl)] at h;cases h;exact ⟨rfl,rfl,rfl⟩
       obtain ⟨c6,l6,f6⟩:=(zh oL.out.br).clf;go_wp2_with fail
       rw [Exit.noGoto_ret];exact bodyPost_ret (v:=aD #[aB #[Z I 0,Z I 0],Z I 6]) (by have h6:=((oL.out.br.set 0 (Z I 0)).set 1 (Z I 0)).cell;have ME:=h6 0;have FN:=h6 1;simp [results,Tryz.results55,go_sem,ME,FN]) rfl ⟨rfl,(oL.out.bw.setCell (p:=⟨w.heap.size+1+1,0,none⟩) (by simp;omega) _).setCell (p:=⟨w.heap.size+1+1,1,none⟩) (by simp;omega) _⟩
      ·obtain ⟨c8,l8,f8⟩:=(zh oL.out.bl).clf;obtain ⟨c9,l9,f9⟩:=(zh oL.out.bh).clf;unfold BD at c8 c9;have Qa:=zh (oL.out.step (k:=0) zo (by rw [EL.out.1]) (by rw [EL.out.2]));rw [EL.out.1,EL.out.2] at Qa;clear oL;go_wp2_with fail
       go_roundw
       case rel=>exact ⟨1,rfl,rfl,zh (.inr<| .inl ⟨rfl,Qa.out⟩)⟩
       case measure=>simp [intOf]
    ·clear HJ;obtain ⟨⟨l1,l2⟩,el⟩:∃ v,xC Q (x,y) (z,t) 1=v:=⟨_,rfl⟩;obtain ⟨⟨h1,h2⟩,eh⟩:∃ v,xE Q (x,y) (z,t) 1=v:=⟨_,rfl⟩;have Qc:=zh (HL.out 1);have Qd:=zh (HH.out 1);rw [el] at Qc;rw [eh] at Qd;have EL:=zh (And.intro el eh);have NJ:=zh hS;clear el eh hS;have O9:∀ W,(Instr.index 165 (aB #[Z I z,Z I t]) (Z I 1)).run Tryz.prog W= .ok (Z I t) W:=fun W=>by kernel_rfl
     go_wp2_with fail
     refine (Qc.out _ NJ.out.bw).mono ?_;rintro e w1 ⟨rfl,hb⟩;have Qb:=zh (NJ.out.later hb);clear hb O9 Qc NJ;go_wp2_with fail
     refine (Qd.out _ Qb.out.bw).mono ?_;rintro e w2 ⟨rfl,hb⟩;have oL:=zh (Qb.out.later hb);clear hb Qd Qb;cases l2
     ·obtain ⟨rfl,rfl,rfl⟩:s1=0∧s2=0∧s3=6:=by have h:=HS.out;rw [HN.out 1 zo (by rw [EL.out.1];exact .inl rfl)] at h;cases h;exact ⟨rfl,rfl,rfl⟩
      obtain ⟨c6,l6,f6⟩:=(zh oL.out.br).clf;go_wp2_with fail
      rw [Exit.noGoto_ret];exact bodyPost_ret (v:=aD #[aB #[Z I 0,Z I 0],Z I 6]) (by have h6:=((oL.out.br.set 0 (Z I 0)).set 1 (Z I 0)).cell;have ME:=h6 0;have FN:=h6 1;simp [results,Tryz.results55,go_sem,ME,FN]) rfl ⟨rfl,(oL.out.bw.setCell (p:=⟨w.heap.size+1+1,0,none⟩) (by simp;omega) _).setCell (p:=⟨w.heap.size+1+1,1,none⟩) (by simp;omega) _⟩
     ·cases h2
      ·obtain ⟨rfl,rfl,rfl⟩:s1=0∧s2=0∧s3=6:=by have h:=HS.out;rw [HN.out 1 zo (by rw [EL.out.2];exact .inr rfl)] at h;cases h;exact ⟨rfl,rfl,rfl⟩
       obtain ⟨c6,l6,f6⟩:=(zh oL.out.br).clf;go_wp2_with fail
       rw [Exit.noGoto_ret];exact bodyPost_ret (v:=aD #[aB #[Z I 0,Z I 0],Z I 6]) (by have h6:=((oL.out.br.set 0 (Z I 0)).set 1 (Z I 0)).cell;have ME:=h6 0;have FN:=h6 1;simp [results,Tryz.results55,go_sem,ME,FN]) rfl ⟨rfl,(oL.out.bw.setCell (p:=⟨w.heap.size+1+1,0,none⟩) (by simp;omega) _).setCell (p:=⟨w.heap.size+1+1,1,none⟩) (by simp;omega) _⟩
      ·obtain ⟨c8,l8,f8⟩:=(zh oL.out.bl).clf;obtain ⟨c9,l9,f9⟩:=(zh oL.out.bh).clf;unfold BD at c8 c9;have Qa:=zh (oL.out.step (k:=1) zo (by rw [EL.out.1]) (by rw [EL.out.2]));rw [EL.out.1,EL.out.2] at Qa;clear oL;go_wp2_with fail
       go_roundw
       case rel=>exact ⟨2,rfl,rfl,zh (.inr<| .inr ⟨rfl,Qa.out⟩)⟩
       case measure=>simp [intOf]
    ·have Qa:=zh hS;clear hS HJ;go_wp2_with fail
     go_roundw
     case rel=>exact ⟨1,rfl,rfl,zh (.inr<| .inl ⟨rfl,Qa.out⟩)⟩
     case measure=>simp [intOf]
  ·clear HI;have hix:∀ W,(Instr.index 165 (aB #[Z I x,Z I y]) (Z I 1)).run Tryz.prog W= .ok (Z I y) W:=fun W=>by kernel_rfl
   obtain ⟨c4,l4⟩:=(zh hS.bb).cl;have HS0:=zh hS;clear hS;go_wp2_with fail
   clear hix c4 l4
   go_loopw [10,33] (fun fv jv wr=>∃ j:Int,fv= ak true∧jv= Z I j∧Hid ((j=0∧Oc Q w (x,y) (z,t) wr 2)∨(j=1∧Oc Q w (x,y) (z,t) wr 3)∨(j=2∧Oc Q w (x,y) (z,t) wr 4))) (fun _ jv _=>2 - (intOf jv).toNat)
   case atStart=>exact ⟨0,rfl,rfl,zh (.inl ⟨rfl,HS0.out⟩)⟩
   case round =>
    clear HS0;obtain ⟨j,rfl,rfl,HJ⟩:=hrel
    rcases HJ.out with ⟨rfl,hS⟩|⟨rfl,hS⟩|⟨rfl,hS⟩
    ·clear HJ;obtain ⟨⟨l1,l2⟩,el⟩:∃ v,xC Q (x,y) (z,t) 2=v:=⟨_,rfl⟩;obtain ⟨⟨h1,h2⟩,eh⟩:∃ v,xE Q (x,y) (z,t) 2=v:=⟨_,rfl⟩;have Qc:=zh (HL.out 2);have Qd:=zh (HH.out 2);rw [el] at Qc;rw [eh] at Qd;have EL:=zh (And.intro el eh);have NJ:=zh hS;clear el eh hS;have O9:∀ W,(Instr.index 165 (aB #[Z I z,Z I t]) (Z I 0)).run Tryz.prog W= .ok (Z I z) W:=fun W=>by kernel_rfl
     go_wp2_with fail
     refine (Qc.out _ NJ.out.bw).mono ?_;rintro e w1 ⟨rfl,hb⟩;have Qb:=zh (NJ.out.later hb);clear hb O9 Qc NJ;go_wp2_with fail
     refine (Qd.out _ Qb.out.bw).mono ?_;rintro e w2 ⟨rfl,hb⟩;have oL:=zh (Qb.out.later hb);clear hb Qd Qb;cases l2
     ·obtain ⟨rfl,rfl,rfl⟩:s1=0∧s2=0∧s3=6:=by have h:=HS.out;rw [HN.out 2 zo (by rw [EL.out.1];exact .inl rfl)] at h;cases h;exact ⟨rfl,rfl,rfl⟩
      obtain ⟨c6,l6,f6⟩:=(zh oL.out.br).clf;go_wp2_with fail
      rw [Exit.noGoto_ret];exact bodyPost_ret (v:=aD #[aB #[Z I 0,Z I 0],Z I 6]) (by have h6:=((oL.out.br.set 0 (Z I 0)).set 1 (Z I 0)).cell;have ME:=h6 0;have FN:=h6 1;simp [results,Tryz.results55,go_sem,ME,FN]) rfl ⟨rfl,(oL.out.bw.setCell (p:=⟨w.heap.size+1+1,0,none⟩) (by simp;omega) _).setCell (p:=⟨w.heap.size+1+1,1,none⟩) (by simp;omega) _⟩
     ·cases h2
      ·obtain ⟨rfl,rfl,rfl⟩:s1=0∧s2=0∧s3=6:=by have h:=HS.out;rw [HN.out 2 zo (by rw [EL.out.2];exact .inr rfl)] at h;cases h;exact ⟨rfl,rfl,rfl⟩
       obtain ⟨c6,l6,f6⟩:=(zh oL.out.br).clf;go_wp2_with fail
       rw [Exit.noGoto_ret];exact bodyPost_ret (v:=aD #[aB #[Z I 0,Z I 0],Z I 6]) (by have h6:=((oL.out.br.set 0 (Z I 0)).set 1 (Z I 0)).cell;have ME:=h6 0;have FN:=h6 1;simp [results,Tryz.results55,go_sem,ME,FN]) rfl ⟨rfl,(oL.out.bw.setCell (p:=⟨w.heap.size+1+1,0,none⟩) (by simp;omega) _).setCell (p:=⟨w.heap.size+1+1,1,none⟩) (by simp;omega) _⟩
      ·obtain ⟨c8,l8,f8⟩:=(zh oL.out.bl).clf;obtain ⟨c9,l9,f9⟩:=(zh oL.out.bh).clf;unfold BD at c8 c9;have Qa:=zh (oL.out.step (k:=2) zo (by rw [EL.out.1]) (by rw [EL.out.2]));rw [EL.out.1,EL.out.2] at Qa;clear oL;go_wp2_with fail
       go_roundw
       case rel=>exact ⟨1,rfl,rfl,zh (.inr<| .inl ⟨rfl,Qa.out⟩)⟩
       case measure=>simp [intOf]
    ·clear HJ;obtain ⟨⟨l1,l2⟩,el⟩:∃ v,xC Q (x,y) (z,t) 3=v:=⟨_,rfl⟩;obtain ⟨⟨h1,h2⟩,eh⟩:∃ v,xE Q (x,y) (z,t) 3=v:=⟨_,rfl⟩;have Qc:=zh (HL.out 3);have Qd:=zh (HH.out 3);rw [el] at Qc;rw [eh] at Qd;have EL:=zh (And.intro el eh);have NJ:=zh hS;clear el eh hS;have O9:∀ W,(Instr.index 165 (aB #[Z I z,Z I t]) (Z I 1)).run Tryz.prog W= .ok (Z I t) W:=fun W=>by kernel_rfl
     go_wp2_with fail
     refine (Qc.out _ NJ.out.bw).mono ?_;rintro e w1 ⟨rfl,hb⟩;have Qb:=zh (NJ.out.later hb);clear hb O9 Qc NJ;go_wp2_with fail
     refine (Qd.out _ Qb.out.bw).mono ?_;rintro e w2 ⟨rfl,hb⟩;have oL:=zh (Qb.out.later hb);clear hb Qd Qb;cases l2
     ·obtain ⟨rfl,rfl,rfl⟩:s1=0∧s2=0∧s3=6:=by have h:=HS.out;rw [HN.out 3 zo (by rw [EL.out.1];exact .inl rfl)] at h;cases h;exact ⟨rfl,rfl,rfl⟩
      obtain ⟨c6,l6,f6⟩:=(zh oL.out.br).clf;go_wp2_with fail
      rw [Exit.noGoto_ret];exact bodyPost_ret (v:=aD #[aB #[Z I 0,Z I 0],Z I 6]) (by have h6:=((oL.out.br.set 0 (Z I 0)).set 1 (Z I 0)).cell;have ME:=h6 0;have FN:=h6 1;simp [results,Tryz.results55,go_sem,ME,FN]) rfl ⟨rfl,(oL.out.bw.setCell (p:=⟨w.heap.size+1+1,0,none⟩) (by simp;omega) _).setCell (p:=⟨w.heap.size+1+1,1,none⟩) (by simp;omega) _⟩
     ·cases h2
      ·obtain ⟨rfl,rfl,rfl⟩:s1=0∧s2=0∧s3=6:=by have h:=HS.out;rw [HN.out 3 zo (by rw [EL.out.2];exact .inr rfl)] at h;cases h;exact ⟨rfl,rfl,rfl⟩
       obtain ⟨c6,l6,f6⟩:=(zh oL.out.br).clf;go_wp2_with fail
       rw [Exit.noGoto_ret];exact bodyPost_ret (v:=aD #[aB #[Z I 0,Z I 0],Z I 6]) (by have h6:=((oL.out.br.set 0 (Z I 0)).set 1 (Z I 0)).cell;have ME:=h6 0;have FN:=h6 1;simp [results,Tryz.results55,go_sem,ME,FN]) rfl ⟨rfl,(oL.out.bw.setCell (p:=⟨w.heap.size+1+1,0,none⟩) (by simp;omega) _).setCell (p:=⟨w.heap.size+1+1,1,none⟩) (by simp;omega) _⟩
      ·obtain ⟨c8,l8,f8⟩:=(zh oL.out.bl).clf;obtain ⟨c9,l9,f9⟩:=(zh oL.out.bh).clf;unfold BD at c8 c9;have Qa:=zh (oL.out.step (k:=3) zo (by rw [EL.out.1]) (by rw [EL.out.2]));rw [EL.out.1,EL.out.2] at Qa;clear oL;go_wp2_with fail
       go_roundw
       case rel=>exact ⟨2,rfl,rfl,zh (.inr<| .inr ⟨rfl,Qa.out⟩)⟩
       case measure=>simp [intOf]
    ·have Qa:=zh hS;clear hS HJ;go_wp2_with fail
     go_roundw
     case rel=>exact ⟨2,rfl,rfl,zh (.inr<| .inr ⟨rfl,Qa.out⟩)⟩
     case measure=>simp [intOf]
  ·clear HI;have HP:=zh hS;clear hS;have HMn:=zh (fun W h=>V4 (w.heap.size+1+1+1) 4 [(xC Q (x,y) (z,t) 0).1,(xC Q (x,y) (z,t) 1).1,(xC Q (x,y) (z,t) 2).1,(xC Q (x,y) (z,t) 3).1] _ rfl (BD (xC Q (x,y) (z,t)) 4) 164 W h (Q9 _) zi);have HMx:=zh (fun W h=>MG (w.heap.size+1+1+1+1) 4 [(xE Q (x,y) (z,t) 0).1,(xE Q (x,y) (z,t) 1).1,(xE Q (x,y) (z,t) 2).1,(xE Q (x,y) (z,t) 3).1] _ rfl (BD (xE Q (x,y) (z,t)) 4) 164 W h (Q9 _) zi);have HMd:=zh (fun lo hi W=>oN lo hi W);obtain ⟨mn,emn⟩:∃ v,[(xC Q (x,y) (z,t) 0).1,(xC Q (x,y) (z,t) 1).1,(xC Q (x,y) (z,t) 2).1,(xC Q (x,y) (z,t) 3).1].foldl min (xC Q (x,y) (z,t) 0).1=v:=⟨_,rfl⟩;obtain ⟨mx,emx⟩:∃ v,[(xE Q (x,y) (z,t) 0).1,(xE Q (x,y) (z,t) 1).1,(xE Q (x,y) (z,t) 2).1,(xE Q (x,y) (z,t) 3).1].foldl max (xE Q (x,y) (z,t) 0).1=v:=⟨_,rfl⟩
   have hsp:jK mn mx=((s1,s2),s3):=by
    rw [← HS.out,← emn,← emx];unfold vM;rw [if_pos];unfold WT;rw [dI];intro q hq;have hq4:q<4:=by simpa using hq
    have:=HP.out.ok q hq4;simp [this.1,this.2]
   rw [emn] at HMn;rw [emx] at HMx;replace HMd:=zh (fun W=>HMd.out mn mx W);rw [hsp] at HMd;unfold jg at HMd;clear emn emx hsp HL HH HN HS;go_wp2_with fail
   refine aO [(.pure,0),(.pure,2),(.ext,1),(.ext,3),(.ext,4),(.pure,5),(.pure,6),(.fin,7),(.fin,8)] zk zk zR zP ?_;refine Wk.out ?_
   (iterate 2 refine zU ?_)
   refine Og rfl rfl (fun wa hba J hJ=>?_);go_simp;have za:Bw wr wa:=aI;refine (HMn.out _ (HP.out.bl.later za)).mono ?_;rintro e wb ⟨rfl,hb⟩;have zb:=Bt za hb;refine hJ _ _ hb ?_;clear hJ J hb hba za HMn;refine Og rfl rfl (fun wc hbc J hJ=>?_);go_simp;have zc:=Bt zb hbc;refine (HMx.out _ (HP.out.bh.later zc)).mono ?_;rintro e wd ⟨rfl,hb⟩;have zd:=Bt zc hb;refine hJ _ _ hb ?_;clear hJ J hb hbc zb zc HMx;refine Og rfl rfl (fun we hbe J hJ=>?_);go_simp;have ze:=Bt zd hbe;refine (HMd.out _).mono ?_;rintro e wf ⟨rfl,hb⟩;have zf:=Bt ze hb;refine hJ _ _ hb ?_;clear hJ J hb hbe zd ze HMd
   (iterate 2 refine zU ?_)
   refine Un [_,_] rfl (fun wg hbg=>?_);have oL:=zh (HP.out.later (Bt zf hbg));clear zf hbg HP;obtain ⟨c6,l6,f6⟩:=(zh oL.out.br).clf;go_wp2_with fail
   rw [Exit.noGoto_ret];exact bodyPost_ret (v:=aD #[aB #[Z I s1,Z I s2],Z I s3]) (by have h6:=((oL.out.br.set 0 (Z I s1)).set 1 (Z I s2)).cell;have ME:=h6 0;have FN:=h6 1;simp [results,Tryz.results55,go_sem,ME,FN]) rfl ⟨rfl,(oL.out.bw.setCell (p:=⟨w.heap.size+1+1,0,none⟩) (by simp;omega) _).setCell (p:=⟨w.heap.size+1+1,1,none⟩) (by simp;omega) _⟩
def QV (a b:Int × Int) (k:Nat):Int × Bool:=mJ (QH a k) (N9 b k) 1000000000000 false
def Bo (a b:Int × Int) (k:Nat):Int × Bool:=mJ (QH a k) (N9 b k) 1000000000000 true
def av0 (a b:Int × Int):Bool:=(dB 4).all fun k=>(QV a b k).2&&(Bo a b k).2
def Sc (a b:Int × Int):(Int × Int) × Int:=if av0 a b then jK ([(QV a b 0).1,(QV a b 1).1,(QV a b 2).1,(QV a b 3).1].foldl min (QV a b 0).1) ([(Bo a b 0).1,(Bo a b 1).1,(Bo a b 2).1,(Bo a b 3).1].foldl max (Bo a b 0).1) else ((0,0),6)
def qm (a b:Int × Int):(Int × Int) × Int:=if okB [a,b] then Sc a b else ((0,0),30)
theorem R9 (x y z t:Int) (hx:x.natAbs≤1000000000000000000) (hy:y.natAbs≤1000000000000000000) (hz:z.natAbs≤1000000000000000000) (ht:t.natAbs≤1000000000000000000) (w:World) :
  Calls Tryz.prog 55 #[aB #[Z I x,Z I y],aB #[Z I z,Z I t],.func (.func 56) #[] #[]] w (fun e w'=>e= aj (jg (Sc (x,y) (z,t)))∧Bw w w'):=by
 have hpx:∀ k,(QH (x,y) k).natAbs≤1000000000000000000:=fun k=>by unfold QH;split<;>assumption
 have hpy:∀ k,(N9 (z,t) k).natAbs≤1000000000000000000:=fun k=>by unfold N9;split<;>assumption
 exact yG (fun x y up=>mJ x y 1000000000000 up) 56 #[] x y z t w (fun k up W _=>ac9 _ _ up (hpx k) (hpy k) W) (fun args W=>by rfl)
theorem ad1 (x y z t:Int) (h0:okB [(x,y),(z,t)]=true) (b c:Nat) (w:World) (h:aA w b #[Z I x,Z I y] 26) (k:aA w c #[Z I z,Z I t] 26) :
  Calls Tryz.prog 54 #[ay (some ⟨b,0,none⟩),ay (some ⟨c,0,none⟩)] w (fun e w'=>e= aj (jg (Sc (x,y) (z,t)))∧Bw w w'):=by
 have h0':jl x y=true∧jl z t=true:=by simpa [okB] using h0
 obtain ⟨hk1,hk2,hk3⟩: -1000000000000000000≤x∧x≤y∧y≤1000000000000000000:=by simpa [jl] using h0'.1
 obtain ⟨hk4,hk5,hk6⟩: -1000000000000000000≤z∧z≤t∧t≤1000000000000000000:=by simpa [jl] using h0'.2
 have H:=zh (fun W=>R9 x y z t zo zo zo zo W);generalize Sc (x,y) (z,t)=m at *;obtain ⟨⟨m1,m2⟩,m3⟩:=m;unfold jg at *;simp only at *;have cb:=h.cell;have lb:=h.lt;have cc:=k.cell;have lc:=k.lt;clear h k h0 h0' hk1 hk2 hk3 hk4 hk5 hk6;go_enter Tryz.func54,Tryz.ntmps54
 go_wp2_with fail
 refine (H.out _).mono ?_;rintro e w1 ⟨rfl,hb1⟩;have hx:=aA.later (aA.new w #[Z I 0,Z I 0] 26) hb1;have cx:=hx.cell;have fx:=hx.free;have lx:=hx.lt;have hw:=Bt (show Below w.heap.size w (w.alloc (.cells #[Z I 0,Z I 0] 26)) from aI) hb1;go_wp2_with fail
 refine bX rfl rfl bq Tryz.underlying26 rfl zk ?_;exact ⟨rfl,aI⟩
theorem oK (x y z t:Int) (w:World):Calls Tryz.prog 25 #[aB #[Z I x,Z I y],aB #[Z I z,Z I t]] w (fun e w'=>e= aj (jg (qm (x,y) (z,t)))∧Bw w w'):=by
 have H:Hid (∀ W b c d,aA W b #[Z I x,Z I y] 26→aA W c #[Z I z,Z I t] 26→aA W d #[Z I x,Z I y,Z I z,Z I t] 26→Calls Tryz.prog 53 #[.func (.func 54) #[] #[ay (some ⟨b,0,none⟩),ay (some ⟨c,0,none⟩)],ah (some ⟨d,0,none⟩) 2 2] W (fun e w'=>e= aj (jg (qm (x,y) (z,t)))∧Bw W w')):=zh fun W b c d h1 h2 h3 =>
  uX 54 #[ay (some ⟨b,0,none⟩),ay (some ⟨c,0,none⟩)] _ _ _ _ W (La.two h3) (fun h W' hW'=>ad1 x y z t h b c W' (h1.later hW') (h2.later hW')) (fun args W=>by rfl)
 generalize qm (x,y) (z,t)=m at *;obtain ⟨⟨m1,m2⟩,m3⟩:=m;unfold jg at *;simp only at *;go_enter Tryz.func25,Tryz.ntmps25
 go_wp2_with fail
 obtain ⟨wx,EW,hz,X,Y,R,dO⟩:=al4 w #[Z I x,Z I y] 26 #[Z I z,Z I t] 26 #[Z I 0,Z I 0] 26 #[Z I x,Z I y,Z I z,Z I t] 26;rw [EW];clear EW;have HB:=zh hz;clear hz;refine (H.out _ _ _ _ X.out Y.out dO.out).mono ?_;rintro e w1 ⟨rfl,hb1⟩;replace R:=R.bl hb1;replace HB:=zh (Bt HB.out hb1);clear hb1 H;have hx:=R.out;have cx:=hx.cell;have fx:=hx.free;have lx:=hx.lt;have hw:=HB.out;go_wp2_with fail
 refine bX rfl rfl bq Tryz.underlying26 rfl zk ?_;exact ⟨rfl,aI⟩
def nG (a b:Int × Int):(Int × Int) × Int:=if okB [a,b] then jK (a.1+b.1) (a.2+b.2) else ((0,0),30)
theorem ae3 (x y z t:Int) (h0:okB [(x,y),(z,t)]=true) (b c:Nat) (w:World) (h:aA w b #[Z I x,Z I y] 26) (k:aA w c #[Z I z,Z I t] 26) :
  Calls Tryz.prog 162 #[ay (some ⟨b,0,none⟩),ay (some ⟨c,0,none⟩)] w (fun e w'=>e= aj (jg (jK (x+z) (y+t)))∧Bw w w'):=by
 have h0':jl x y=true∧jl z t=true:=by simpa [okB] using h0
 obtain ⟨hk1,hk2,hk3⟩: -1000000000000000000≤x∧x≤y∧y≤1000000000000000000:=by simpa [jl] using h0'.1
 obtain ⟨hk4,hk5,hk6⟩: -1000000000000000000≤z∧z≤t∧t≤1000000000000000000:=by simpa [jl] using h0'.2
 have H:=zh (fun W=>oN (x+z) (y+t) W);generalize jK (x+z) (y+t)=m at *;obtain ⟨⟨m1,m2⟩,m3⟩:=m;unfold jg at *;simp only at *;have cb:=h.cell;have lb:=h.lt;have cc:=k.cell;have lc:=k.lt;clear h k h0 h0';go_enter Tryz.func162,Tryz.ntmps162
 go_wp2_with fail
 refine (H.out _).mono ?_;rintro e w1 ⟨rfl,hb1⟩;have hx:=aA.later (aA.new w #[Z I 0,Z I 0] 26) hb1;have cx:=hx.cell;have fx:=hx.free;have lx:=hx.lt;have hw:=Bt (show Below w.heap.size w (w.alloc (.cells #[Z I 0,Z I 0] 26)) from aI) hb1;go_wp2_with fail
 refine bX rfl rfl bq Tryz.underlying26 rfl zk ?_;exact ⟨rfl,aI⟩
theorem wZ (x y z t:Int) (w:World):Calls Tryz.prog 98 #[aB #[Z I x,Z I y],aB #[Z I z,Z I t]] w (fun e w'=>e= aj (jg (nG (x,y) (z,t)))∧Bw w w'):=by
 have H:Hid (∀ W b c d,aA W b #[Z I x,Z I y] 26→aA W c #[Z I z,Z I t] 26→aA W d #[Z I x,Z I y,Z I z,Z I t] 26→Calls Tryz.prog 53 #[.func (.func 162) #[] #[ay (some ⟨b,0,none⟩),ay (some ⟨c,0,none⟩)],ah (some ⟨d,0,none⟩) 2 2] W (fun e w'=>e= aj (jg (nG (x,y) (z,t)))∧Bw W w')):=zh fun W b c d h1 h2 h3 =>
  uX 162 #[ay (some ⟨b,0,none⟩),ay (some ⟨c,0,none⟩)] _ _ _ _ W (La.two h3) (fun h W' hW'=>ae3 x y z t h b c W' (h1.later hW') (h2.later hW')) (fun args W=>by rfl)
 generalize nG (x,y) (z,t)=m at *;obtain ⟨⟨m1,m2⟩,m3⟩:=m;unfold jg at *;simp only at *;go_enter Tryz.func98,Tryz.ntmps98
 go_wp2_with fail
 obtain ⟨wx,EW,hz,X,Y,R,dO⟩:=al4 w #[Z I x,Z I y] 26 #[Z I z,Z I t] 26 #[Z I 0,Z I 0] 26 #[Z I x,Z I y,Z I z,Z I t] 26;rw [EW];clear EW;have HB:=zh hz;clear hz;refine (H.out _ _ _ _ X.out Y.out dO.out).mono ?_;rintro e w1 ⟨rfl,hb1⟩;replace R:=R.bl hb1;replace HB:=zh (Bt HB.out hb1);clear hb1 H;have hx:=R.out;have cx:=hx.cell;have fx:=hx.free;have lx:=hx.lt;have hw:=HB.out;go_wp2_with fail
 refine bX rfl rfl bq Tryz.underlying26 rfl zk ?_;exact ⟨rfl,aI⟩
end Go.Proofs.fB
namespace Go.Mem
open Go Go.RowKit Go.SW Go.Num
def Nm (w:World) (v:Value) (n:Nat):Prop:=Row w 3 v (ints (d9 10000 n))
theorem Nm.later {w w':World} {v:Value} {n:Nat} (h:Nm w v n) (hb:Bw w w'):Nm w' v n:=Row.later h hb
theorem Nm.setOther {w:World} {v:Value} {n:Nat} (h:Nm w v n) {b:Nat} {cs:Array Value} {T':TypeId} (hx:aA w b cs T') (hT:3≠T') (o:Nat) (u:Value):Nm (w.setCell ⟨b,o,none⟩ u) v n:=Row.setOther h hx hT o u
def Gs (w:World) (v:Value) (l:List Nat):Prop:=Row w 3 v (ints l)
theorem Gs.later {w w':World} {v:Value} {l:List Nat} (h:Gs w v l) (hb:Bw w w'):Gs w' v l:=Row.later h hb
theorem Gs.cases {w:World} {v:Value} {l:List Nat} (h:Gs w v l) :
  (v= ah none 0 0∧l=[])∨∃ b off cap,v= ah (some ⟨b,off,none⟩) l.length cap∧l.length≤cap∧cap≤9223372036854775807∧b<w.heap.size∧(∃ arr,aA w b arr 3)∧∀ i,i<l.length→w.cell? ⟨b,off+i,none⟩=some (.int .i64 (l.getD i 0:Nat)):=by
 rcases Row.cases h with ⟨h1,h2⟩|⟨b,off,cap,arr,h1,h2,h3,h4,h5⟩
 ·refine .inl ⟨h1,?_⟩;unfold ints at h2
  simpa using h2
 ·refine .inr ⟨b,off,cap,by rw [h1,dH],by rwa [dH] at h2,h3,h4.lt,⟨arr,h4⟩,fun i hi=>?_⟩;rw [h4.cell,h5 i (by rw [dH];exact hi)];simp [ints,hi]
theorem Gs.read {w:World} {v:Value} {l:List Nat} (h:Gs w v l) :
  ∃ a cap,v= ah a l.length cap∧l.length≤cap∧cap≤9223372036854775807∧∀ k,k<l.length→∃ b off,a=some ⟨b,off,none⟩∧b<w.heap.size∧w.cell? ⟨b,off+k,none⟩=some (.int .i64 (l.getD k 0:Nat)):=by
 rcases Gs.cases h with ⟨rfl,rfl⟩|⟨b,off,cap,rfl,h1,h2,h3,_,h5⟩
 ·exact ⟨none,0,rfl,by simp,by simp,fun k hk=>by cases hk⟩
 ·exact ⟨some ⟨b,off,none⟩,cap,rfl,h1,h2,fun k hk=>⟨b,off,rfl,h3,h5 k hk⟩⟩
theorem Nm.Vw {w:World} {v:Value} {l:List Nat} (h:Gs w v l) (hd:fV 10000 l) (ht:Top l):Nm w v (val 10000 l):=by
 unfold Nm;rw [FU zo hd ht];exact h
theorem Nm.gs {w:World} {v:Value} {n:Nat} (h:Nm w v n):Gs w v (d9 10000 n):=h
theorem Gs.gP {w:World} {base k:Nat} {v:Value} {s:List Nat} (h:w.ownsRow base 3 1 v k (ints s)):Gs w v s:=Row.gP h
theorem Bj (n:Nat):(madeCells #[Value.int .i64 0] n).toList=ints (bJ n 0):=by
 rw [toList_madeCells_one];simp [ints]
theorem ints_set (l:List Nat) (k d:Nat):(ints l).set k (Z I (d:Int))=ints (l.set k d):=by simp [ints,List.map_set]
theorem wD {l:List Nat} {k:Nat} (h:k<l.length):(ints l)[k]? =some (.int .i64 (l.getD k 0:Nat)):=by simp [ints,h]
theorem Gs.yN {w:World} {g n m:Nat} {l post:List Nat} (h:aA w g (ints (l++post)).toArray 3) (hl:l.length=n) (hm:n≤m) (hm2:m≤9223372036854775807):Gs w (ah (some ⟨g,0,none⟩) n m) l:=by
 refine Row.mk (by rw [dH];omega) (by rw [dH];omega) hm2 h fun i hi=>?_;rw [dH] at hi;rw [dP,List.getElem?_toArray];simp [ints,hi,eO]
theorem Nm.lit {w:World} {d:Nat} (h0:0<d) (h1:d<10000):Nm (w.alloc (.cells #[Z I d] 3 (0,0))) (ah (some ⟨w.heap.size,0,none⟩) 1 1) d:=by
 have e:d9 10000 d=[d]:=by rw [mD zo h0,fQ h1,fD h1,iA]
 unfold Nm;rw [e];refine Row.mk rfl (by simp [ints]) zo (aA.new _ _ _) fun i hi=>?_
 match i,hi with
 | 0,_=>rfl
theorem Nm.zero (w:World):Nm w (ah none 0 0) 0:=by unfold Nm;rw [iA];exact Row.nil _ _
theorem ints_oneCell (l:List Nat):∀ v∈ints l,v.oneCell'=true:=fun v hv=>by
 obtain ⟨d,_,rfl⟩:=List.mem_map.1 hv;rfl
theorem Nm.slice {w:World} {v:Value} {n:Nat} (h:Nm w v n):∃ pa l ca,v= ah pa l ca:=by
 obtain ⟨a,cap,h1, -⟩:=h;exact ⟨_,_,_,h1⟩
def Pl (w:World) (v:Value) (z:Int):Prop:=∃ pa l ca,v= aB #[ak (decide (z<0)),ah pa l ca]∧Nm w (ah pa l ca) z.natAbs
theorem Pl.later {w w':World} {v:Value} {z:Int} (h:Pl w v z) (hb:Bw w w'):Pl w' v z:=by
 obtain ⟨pa,l,ca,h1,h2⟩:=h;exact ⟨pa,l,ca,h1,h2.later hb⟩
theorem Pl.mk {w:World} {m:Value} {z:Int} {b:Bool} {n:Nat} (h:Nm w m n) (hn:n=z.natAbs) (hb:b=decide (z<0)):Pl w (aB #[ak b,m]) z:=by
 obtain ⟨pa,l,ca,rfl⟩:=h.slice;exact ⟨pa,l,ca,by rw [hb],hn ▸ h⟩
theorem Pl.cast {w:World} {v:Value} {y z:Int} (h:Pl w v y) (e:y=z):Pl w v z:=e ▸ h
theorem Nm.alloc {w:World} {v:Value} {n:Nat} (h:Nm w v n) (o:Obj):Nm (w.alloc o) v n:=h.later ((Below.refl _ _).alloc (aC _) _)
theorem Gs.alloc {w:World} {v:Value} {n:List Nat} (h:Gs w v n) (o:Obj):Gs (w.alloc o) v n:=h.later ((Below.refl _ _).alloc (aC _) _)
theorem Pl.agg {w:World} {v:Value} {z:Int} (h:Pl w v z):∃ b pa l ca,v= aB #[ak b,ah pa l ca]:=by
 obtain ⟨pa,l,ca,h1, -⟩:=h;exact ⟨_,_,_,_,h1⟩
theorem Pl.setOther {w:World} {v:Value} {z:Int} (h:Pl w v z) {b:Nat} {cs:Array Value} {T':TypeId} (hx:aA w b cs T') (hT:3≠T') (o:Nat) (u:Value):Pl (w.setCell ⟨b,o,none⟩ u) v z:=by
 obtain ⟨pa,l,ca,h1,h2⟩:=h;exact ⟨pa,l,ca,h1,h2.setOther hx hT o u⟩
theorem Pl.set2 {w:World} {v:Value} {z:Int} (h:Pl w v z) {b:Nat} {cs:Array Value} {T':TypeId} (hx:aA w b cs T') (hT:3≠T') (o1 o2:Nat) (u1 u2:Value):Pl ((w.setCell ⟨b,o1,none⟩ u1).setCell ⟨b,o2,none⟩ u2) v z :=
 (h.setOther hx hT o1 u1).setOther (hx.set o1 u1) hT o2 u2
theorem Pl.nm {w:World} {b:Bool} {pa:Option Addr} {l ca:Nat} {z:Int} (h:Pl w (aB #[ak b,ah pa l ca]) z):Nm w (ah pa l ca) z.natAbs∧b=decide (z<0):=by
 obtain ⟨pa',l',Ob,e,h2⟩:=h;simp only [Value.agg.injEq,Array.mk.injEq,jc,Value.bool.injEq,and_true] at e;obtain ⟨e1,e2⟩:=e;rw [e2];exact ⟨h2,e1⟩
theorem UO (z:Int):iR z.natAbs (!decide (z<0))= -z:=Qt z
theorem UR (z:Int):iR z.natAbs (decide (z<0))=z:=by
 unfold iR
 by_cases h:z<0<;>simp [h]<;>omega
theorem UU (n:Nat) (b:Bool):(b&&decide (0<n))=decide (iR n b<0):=by
 rw [← Qu,iZ];simp
 omega
theorem Nm.read {w:World} {v:Value} {n:Nat} (h:Nm w v n):∃ a cap,v= ah a (sz 10000 n) cap∧sz 10000 n≤cap∧cap≤9223372036854775807∧∀ k,k<sz 10000 n→∃ b off,a=some ⟨b,off,none⟩∧b<w.heap.size∧w.cell? ⟨b,off+k,none⟩=some (.int .i64 ((d9 10000 n).getD k 0:Nat)):=Gs.read h.gs
theorem Nm.aq4 {w:World} {pa:Option Addr} {l c n:Nat} (h:Nm w (ah pa l c) n) (hn:0<n):0<l:=by
 obtain ⟨a,cap,e, -⟩:=h.read;simp only [Value.slice.injEq] at e;rw [e.2.1];unfold sz;rw [List.length_pos_iff,Ne,pz zo];omega
theorem Nm.aq5 {w:World} {pa:Option Addr} {l c n:Nat} (h:Nm w (ah pa l c) n) (hn:n=0):l=0:=by
 obtain ⟨a,cap,e, -⟩:=h.read;simp only [Value.slice.injEq] at e;rw [e.2.1,hn,xu]
end Go.Mem
namespace Go.Fx
open Go Go.RowKit Go.SW Go.Mem Go.Proofs
section
variable {P:Program} {n:Nat} {fn:Func} {T:Int→Ending} {w0:World} {V:Value} {k:Int} {p:Pos} {S:Sl} {L:Mm}
theorem yU {R:Post} {c:List PanicEntry} {w:World} (h:R (.panic c) S w):∀ ks:List Kt,Cont P n R ks (.panic c) S w
 | []=>h
 | x::ks=>by cases x<;>exact yU h ks
theorem dD (hT:∀ k,∃ c,T k= .panicked c) (hs:List Nat) (d:Nat) (St:Sl) (U:List (Nat × Array Value)) {f:FuncId} {args:Array Value} {v:Value} {k1:Int} {A:Prop} (hC:∀ w,Mem w0 [] (upd L U) w→Calls P f args w (KH T w v k1)) (hn:(k1=0∧A)∨(k1≠0∧k=k1))
  (hc:k1=0→A→G P n (Ends P n fn (KH T w0 V k)) w0 [] (tr 4000 hs p).2.past ((d,v)::(St++S)) (upd L U))
  (h:Gy P n w0 (tr 4000 hs p).1 S L St (upd L U):=by intro _;kernel_rfl) (hx:∀ w,sJ P n w (AO P n w0 (tr 4000 hs p).1 S L) (tr 4000 hs p).2=some (d,f,args,w):=by intro _;kernel_rfl):G P n (Ends P n fn (KH T w0 V k)) w0 [] p S L:=by
 refine WL hs St _ h ?_;have hsub:=h.sub;have hh:=tT (hx w0);generalize AO P n w0 (tr 4000 hs p).1 S L=F at hx hsub ⊢;generalize (tr 4000 hs p).2=q at hc hx hh;generalize upd L U=L at hC hc;generalize St++S=S at hc hsub;obtain ⟨ops,o,hn',hf,hw,hd,hlt, -⟩:=kG (h:=hx w0);refine place hn' hf hw (Y:=fun N H w a a' w1=>a'=a.put (some d) v∧Bw w w1∧k1=0∧A) (fun w N H hM hok a ha K hK ks=>?_) fun w N H hM hok a a' w' ha hy=>?_
 ·obtain ⟨ops',o',hn2, -, -, -, -, hr⟩:=kG (h:=hx w);rw [hn'] at hn2;cases hn2
  unfold Oper.wp;rw [ha.exec hf,hr];simp only [Oper.upon];refine (hC w hM).mono fun e w' he=>?_;obtain ⟨hb,⟨h1,rfl⟩|⟨h1,rfl⟩⟩:=he
  ·rw [hd]
   rcases hn with ⟨-, hA⟩|⟨h2, -⟩
   ·exact hK _ _ ⟨rfl,hb,h1,hA⟩
   ·exact absurd h1 h2
  ·obtain ⟨c,hc'⟩:=hT k1
   rcases hn with ⟨h2, -⟩|⟨h2,h3⟩
   ·exact absurd h2 h1
   ·rw [hc'];refine ⟨ha.defers,F,yU ?_ ks⟩
    show KH T w0 V k (.panicked c) w'
    exact ⟨Bt hM.below hb,.inr ⟨by rw [h3];exact h1,by rw [h3,hc']⟩⟩
 ·obtain ⟨rfl,h1,h2,h3⟩:=hy;exact ⟨fun _ _ _ _ _ _=>.of h1,_,ha.put hlt v,((hc h2 h3).of (mY hsub d v) hh).out w' N H (hM.later h1) (zN hok (fun _=>rfl) rfl)⟩
end
end Go.Fx
namespace Go.Num
end Go.Num
namespace Go.Num
end Go.Num
namespace Go.Proofs.aS
def flr (q:Rat):Int:=q.num / (q.den:Int)
theorem uI (q:Rat):q=(q.num:Rat) / ((q.den:Int):Rat):=by
 have:=Rat.mkRat_self q;rw [Rat.mkRat_eq_div] at this;exact this.symm
end Go.Proofs.aS
namespace Go.Proofs.fE
open Go Go.Num Go.fG Go.Proofs.fB Go.Proofs.aS
def un (n:Int):Rat:=(n:Rat) / ((1000000000000:Int):Rat)
def iM (a b:Rat):(Int × Int) × Int:=jK (flr (a*((1000000000000:Int):Rat))) (-(flr (-(b*((1000000000000:Int):Rat)))))
theorem Xt {X Y:Int} (h:X< -1000000000000000000∨1000000000000000000<Y∨Y<X):jl X Y=false:=by
 unfold jl
 rcases h with h|h|h
 ·rw [decide_eq_false (show ¬ -1000000000000000000≤X by omega)];rfl
 ·rw [decide_eq_false (show ¬ Y≤1000000000000000000 by omega)];simp
 ·rw [decide_eq_false (show ¬ X≤Y by omega)];simp
end Go.Proofs.fE
namespace Go.fG
open Go Go.RowKit Go.Num Go.Mem
def vC (w:World) (T:TypeId) (v:Value) (l:List Fr):Prop :=
 ∃ a cap,v= ah a l.length cap∧l.length≤cap∧cap≤9223372036854775807∧(a=none→cap=0) ∧
  ∀ ad,a=some ad→ad.spot=none∧∃ arr,aA w ad.block arr T∧∀ i (h:i<l.length),arr[ad.off+i*2]? =some (.string l[i].n)∧arr[ad.off+i*2+1]? =some (.string l[i].d)
theorem vC.later {w w':World} {T:TypeId} {v:Value} {l:List Fr} (h:vC w T v l) (hb:Bw w w'):vC w' T v l:=by
 obtain ⟨a,cap,h1,h2,h3,h4,h5⟩:=h;refine ⟨a,cap,h1,h2,h3,h4,fun ad had=>?_⟩;obtain ⟨h6,arr,h7,h8⟩:=h5 ad had;exact ⟨h6,arr,h7.later hb,h8⟩
theorem vC.read {w:World} {T:TypeId} {v:Value} {l:List Fr} (h:vC w T v l) :
  ∃ a cap,v= ah a l.length cap∧l.length≤cap∧cap≤9223372036854775807∧∀ k (_:k<l.length),∃ b off,a=some ⟨b,off,none⟩∧b<w.heap.size∧w.cell? ⟨b,off+k*2,none⟩=some (.string l[k].n)∧w.cell? ⟨b,off+k*2+1,none⟩=some (.string l[k].d):=by
 obtain ⟨a,cap,h1,h2,h3,h4,h5⟩:=h;refine ⟨a,cap,h1,h2,h3,fun k hk=>?_⟩;cases a with
 | none=>have:=h4 rfl;omega
 | some ad =>
  obtain ⟨h6,arr,h7,h8⟩:=h5 ad rfl;obtain ⟨b,off,sp⟩:=ad;simp only at h6;subst h6;obtain ⟨h9,h10⟩:=h8 k hk;exact ⟨b,off,rfl,h7.lt,(h7.cell _).trans h9,(h7.cell _).trans h10⟩
def jU (l:List Fr):Int:=if l.all (fun a=>(rd a).isSome) then 0 else 20
theorem FZ {a:Fr} (h:(rd a).isSome=true):Dk a=0:=by unfold Dk;rw [h];rfl
theorem PD {a:Fr} (h:(rd a).isSome=false):Dk a=20:=by unfold Dk;rw [h];rfl
def nQ (w:World) (v:Value) (m:List (List Fr)):Prop :=
 ∃ rs:List Value,Row w 130 v rs∧rs.length=m.length∧∀ i (h:i<rs.length) (h':i<m.length),vC w 38 rs[i] m[i]
theorem nQ.later {w w':World} {v:Value} {m:List (List Fr)} (h:nQ w v m) (hb:Bw w w'):nQ w' v m:=by
 obtain ⟨rs,h1,h2,h3⟩:=h;exact ⟨rs,h1.later hb,h2,fun i h h'=>(h3 i h h').later hb⟩
def okM (m:List (List Fr)):Bool:=decide (1≤m.length)&&decide (m.length≤4)&&decide (1≤(m.headD []).length)&&decide ((m.headD []).length≤4)&&m.all (fun r=>r.length == (m.headD []).length&&jU r == 0)
def Kk (m:List (List Fr)):Int:=if okM m then 0 else 50
def Fill (w:World) (g:Nat) (T:TypeId) (n k:Nat) (ok:World→Nat→Value→Value→Prop):Prop :=
 ∃ arr,aA w g arr T∧arr.size=n*2∧∀ i,i<k→∃ x y,arr[i*2]? =some x∧arr[i*2+1]? =some y∧ok w i x y
theorem Fill.box {w:World} {g:Nat} {T:TypeId} {n k:Nat} {ok:World→Nat→Value→Value→Prop} (h:Fill w g T n k ok):∃ arr,aA w g arr T∧arr.size=n*2:=by
 obtain ⟨arr,h1,h2, -⟩:=h;exact ⟨arr,h1,h2⟩
theorem Fill.lt {w:World} {g:Nat} {T:TypeId} {n k:Nat} {ok:World→Nat→Value→Value→Prop} (h:Fill w g T n k ok):g<w.heap.size:=by
 obtain ⟨arr,h1, -⟩:=h;exact h1.lt
theorem Fill.GH {w:World} {g:Nat} {T:TypeId} {n k:Nat} {ok:World→Nat→Value→Value→Prop} (h:Fill w g T n k ok):BH w g T:=by
 obtain ⟨arr,h1, -⟩:=h;exact h1.GH
theorem Fill.later {w w':World} {g:Nat} {T:TypeId} {n k:Nat} {ok:World→Nat→Value→Value→Prop} (h:Fill w g T n k ok) (hb:Bw w w') (hok:∀ i x y,ok w i x y→ok w' i x y):Fill w' g T n k ok:=by
 obtain ⟨arr,h1,h2,h3⟩:=h;refine ⟨arr,h1.later hb,h2,fun i hi=>?_⟩;obtain ⟨x,y,k1,k2,k3⟩:=h3 i hi;exact ⟨x,y,k1,k2,hok _ _ _ k3⟩
theorem Fill.cells {w:World} {g:Nat} {T:TypeId} {n k:Nat} {ok:World→Nat→Value→Value→Prop} (h:Fill w g T n k ok) {j:Nat} (hj:j<n) :
  (∃ x,w.cell? ⟨g,j*2,none⟩=some x)∧(∃ y,w.cell? ⟨g,j*2+1,none⟩=some y)∧∀ o,w.frozen? ⟨g,o,none⟩=false:=by
 obtain ⟨arr,h1,h2,h3⟩:=h;refine ⟨⟨arr[j*2]'zo,?_⟩,⟨arr[j*2+1]'zo,?_⟩,h1.free⟩
 ·rw [h1.cell];exact Array.getElem?_eq_getElem _
 ·rw [h1.cell];exact Array.getElem?_eq_getElem _
theorem Fill.step {w:World} {g:Nat} {T:TypeId} {n k:Nat} {ok:World→Nat→Value→Value→Prop} {x y:Value} (h:Fill w g T n k ok) (hk:k<n)
  (hok:∀ i x' y',ok w i x' y'→ok ((w.setCell ⟨g,k*2,none⟩ x).setCell ⟨g,k*2+1,none⟩ y) i x' y')
  (hx:ok ((w.setCell ⟨g,k*2,none⟩ x).setCell ⟨g,k*2+1,none⟩ y) k x y) :
  Fill ((w.setCell ⟨g,k*2,none⟩ x).setCell ⟨g,k*2+1,none⟩ y) g T n (k+1) ok:=by
 obtain ⟨arr,h1,h2,h3⟩:=h;refine ⟨(arr.setIfInBounds (k*2) x).setIfInBounds (k*2+1) y,(h1.set _ _).set _ _,by simp [h2],fun i hi=>?_⟩
 rcases aH i k with h|h
 ·obtain ⟨x',y',k1,k2,k3⟩:=h3 i h;refine ⟨x',y',?_,?_,hok _ _ _ k3⟩
  ·rw [Array.getElem?_setIfInBounds,if_neg zo,Array.getElem?_setIfInBounds,if_neg zo,k1]
  ·rw [Array.getElem?_setIfInBounds,if_neg zo,Array.getElem?_setIfInBounds,if_neg zo,k2]
 ·obtain rfl:i=k:=by omega
  refine ⟨x,y,?_,?_,hx⟩
  ·rw [Array.getElem?_setIfInBounds,if_neg zo,Array.getElem?_setIfInBounds,if_pos rfl,if_pos zo]
  ·rw [Array.getElem?_setIfInBounds,if_pos rfl,if_pos (by simp;omega)]
theorem Fill.start {w:World} {base g n:Nat} {T:TypeId} {z:Array Value} {ok:World→Nat→Value→Value→Prop} (h:w.ownsRow base T 2 (ah (some ⟨g,0,none⟩) n n) n (madeCells z (n*2)).toList):Fill w g T n 0 ok:=by
 obtain ⟨h1,h2|⟨g',cap,cur,h3,h4,h5,h6,h7,h8,h9⟩⟩:=h
 ·cases h2.1
 ·simp only [Value.slice.injEq,Option.some.injEq,Addr.mk.injEq,and_true,true_and] at h3;obtain ⟨rfl,rfl⟩:=h3;exact ⟨cur,h5,h8,fun i hi=>by omega⟩
def sO (f:Nat→Int) (w:World) (i:Nat) (x y:Value):Prop:=∃ pa l ca,x= ah pa l ca∧y= ak (decide (f i<0))∧aZ w (ah pa l ca) (f i).natAbs
theorem sO.later {f:Nat→Int} {w w':World} (hb:Bw w w') (i:Nat) (x y:Value) (h:sO f w i x y):sO f w' i x y:=by
 obtain ⟨pa,l,ca,h1,h2,h3⟩:=h;exact ⟨pa,l,ca,h1,h2,h3.later hb⟩
theorem sO.Ba {f:Nat→Int} {w:World} {b o:Nat} {T':TypeId} {u:Value} (hx:BH w b T') (hT:22≠T') (i:Nat) (x y:Value) (h:sO f w i x y):sO f (w.setCell ⟨b,o,none⟩ u) i x y:=by
 obtain ⟨pa,l,ca,h1,h2,h3⟩:=h;exact ⟨pa,l,ca,h1,h2,h3.Ba hx hT⟩
def jh (w:World) (v:Value) (l:List Int):Prop :=
 ∃ a cap,v= ah a l.length cap∧l.length≤cap∧cap≤9223372036854775807∧(a=none→cap=0) ∧
  ∀ ad,a=some ad→ad.spot=none∧∃ arr,aA w ad.block arr 206∧∀ i (h:i<l.length),∃ x y,arr[ad.off+i*2]? =some x∧arr[ad.off+i*2+1]? =some y∧sO (fun i=>l.getD i 0) w i x y
theorem jh.later {w w':World} {v:Value} {l:List Int} (h:jh w v l) (hb:Bw w w'):jh w' v l:=by
 obtain ⟨a,cap,h1,h2,h3,h4,h5⟩:=h;refine ⟨a,cap,h1,h2,h3,h4,fun ad had=>?_⟩;obtain ⟨h6,arr,h7,h8⟩:=h5 ad had;refine ⟨h6,arr,h7.later hb,fun i hi=>?_⟩;obtain ⟨x,y,k1,k2,k3⟩:=h8 i hi;exact ⟨x,y,k1,k2,sO.later hb _ _ _ k3⟩
theorem jh.Db {w:World} {g:Nat} {l:List Int} (h:Fill w g 206 l.length l.length (sO fun i=>l.getD i 0)) (hl:l.length≤1000000):jh w (ah (some ⟨g,0,none⟩) l.length l.length) l:=by
 obtain ⟨arr,h1,h2,h3⟩:=h;refine ⟨_,_,rfl,aC _,by omega,(fun h=>by cases h),fun ad had=>?_⟩;cases had
 refine ⟨rfl,arr,h1,fun i hi=>?_⟩;obtain ⟨x,y,k1,k2,k3⟩:=h3 i hi;exact ⟨x,y,by simpa using k1,by simpa using k2,k3⟩
theorem jh.read {w:World} {v:Value} {l:List Int} (h:jh w v l) :
  ∃ a cap,v= ah a l.length cap∧l.length≤cap∧cap≤9223372036854775807∧∀ k (_:k<l.length),∃ b off pa n ca,a=some ⟨b,off,none⟩∧b<w.heap.size∧w.cell? ⟨b,off+k*2,none⟩=some (.slice pa n ca)∧w.cell? ⟨b,off+k*2+1,none⟩=some (.bool (decide (l.getD k 0<0)))∧aZ w (ah pa n ca) (l.getD k 0).natAbs:=by
 obtain ⟨a,cap,h1,h2,h3,h4,h5⟩:=h;refine ⟨a,cap,h1,h2,h3,fun k hk=>?_⟩;cases a with
 | none=>have:=h4 rfl;omega
 | some ad =>
  obtain ⟨h6,arr,h7,h8⟩:=h5 ad rfl;obtain ⟨b,off,sp⟩:=ad;simp only at h6;subst h6;obtain ⟨x,y,h9,h10,pa,n,ca,rfl,rfl,hm⟩:=h8 k hk;exact ⟨b,off,pa,n,ca,rfl,h7.lt,(h7.cell _).trans h9,(h7.cell _).trans h10,hm⟩
def KW (f:Nat→Fr) (_:World) (i:Nat) (x y:Value):Prop:=x= O (f i).n∧y= O (f i).d
theorem vC.Db {w:World} {g:Nat} {T:TypeId} {l:List Fr} (h:Fill w g T l.length l.length (KW fun i=>l.getD i Fr.no)) (hl:l.length≤1000000):vC w T (ah (some ⟨g,0,none⟩) l.length l.length) l:=by
 obtain ⟨arr,h1,h2,h3⟩:=h;refine ⟨_,_,rfl,aC _,by omega,(fun h=>by cases h),fun ad had=>?_⟩;cases had
 refine ⟨rfl,arr,h1,fun i hi=>?_⟩;obtain ⟨x,y,k1,k2,k3,k4⟩:=h3 i hi;have e:l.getD i Fr.no=l[i]:=by simp [hi]
 have k3':x= O (l.getD i Fr.no).n:=k3;have k4':y= O (l.getD i Fr.no).d:=k4;rw [e] at k3' k4';exact ⟨by simpa [k3'] using k1,by simpa [k4'] using k2⟩
end Go.fG
namespace Go.fG
open Go Go.Num
def gB (qs:List Rat):Nat:=qs.foldl (fun a q=>a*(q.den / a.gcd q.den)) 1
def nE (D:Nat) (q:Rat):Int:=q.num*((D / q.den:Nat):Int)
theorem Bz (qs:List Rat) (q:Rat):gB (qs++[q])=gB qs*(q.den / (gB qs).gcd q.den):=by simp [gB]
theorem Tz {qs:List Rat} {k:Nat} (h:k<qs.length):gB (qs.take (k+1))=gB (qs.take k)*(qs[k].den / (gB (qs.take k)).gcd qs[k].den):=by
 rw [iq h,Bz]
theorem vN {α:Type} {Q:List α→Prop} (h0:Q []) (h1:∀ l a,Q l→Q (l++[a])) (l:List α):Q l:=by
 have:∀ n (l:List α),l.length=n→Q l:=by
  intro n
  induction n with
  | zero=>intro l hl;rw [Ii] at hl;subst hl;exact h0
  | succ n ih =>
   intro l hl;have hne:l≠[]:=fun e=>by subst e;simp at hl
   rw [← List.dropLast_concat_getLast hne];exact h1 _ _ (ih _ (by simp [hl]))
 exact this _ l rfl
theorem oI (qs:List Rat):0<gB qs∧(∀ q∈qs,q.den ∣ gB qs):=by
 induction qs using vN with
 | h0=>exact ⟨by simp [gB],fun q h=>by cases h⟩
 | h1 l a ih =>
  obtain ⟨h1,h2⟩:=ih;rw [Bz];have hg:(gB l).gcd a.den ∣ a.den:=Nat.gcd_dvd_right _ _;refine ⟨gV h1 (Nat.div_pos (Nat.le_of_dvd a.den_pos hg) (Nat.gcd_pos_of_pos_right _ a.den_pos)),fun q hq=>?_⟩
  rcases List.mem_append.1 hq with h|h
  ·exact Nat.dvd_trans (h2 q h) (Nat.dvd_mul_right _ _)
  ·rw [List.mem_singleton] at h;subst h;obtain ⟨c,hc⟩:=Nat.gcd_dvd_left (gB l) q.den;rw [← Nat.mul_div_assoc _ hg,Nat.mul_div_right_comm (Nat.gcd_dvd_left _ _)];exact Nat.dvd_mul_left _ _
theorem Dl (qs:List Rat) (h:∀ q∈qs,jk q=true):sz 1000000000 (gB qs)≤67*qs.length+1:=by
 induction qs using vN with
 | h0=>exact dF zo 1 _ (by simp [gB])
 | h1 l a ih =>
  rw [Bz,List.length_append,List.length_singleton];have h1:=ih (fun q hq=>h q (by simp [hq]));have h2:=(lg (h a zi)).2;have h3:=mR (B:=1000000000) zo (gB l) (a.den / (gB l).gcd a.den);have h4:= @jC a.den ((gB l).gcd a.den);omega
theorem Rm {D:Nat} {q:Rat} (hD:0<D) (h:q.den ∣ D):((nE D q:Int):Rat) / ((D:Nat):Rat)=q:=by
 obtain ⟨c,rfl⟩:=h;have hc:0<c:=by rcases aY c with e|e;subst e;simp at hD;exact e
 unfold nE;rw [Nat.mul_div_cancel_left _ q.den_pos]
 have e:q=(q.num:Rat) / ((q.den:Nat):Rat):=by
  rw [← Rat.mkRat_eq_div,Rat.mkRat_self]
 have h1:((q.den:Nat):Rat)≠0:=by
  rw [Ne,Rat.natCast_eq_zero_iff];exact q.den_nz
 have h2:((c:Nat):Rat)≠0:=by
  rw [Ne,Rat.natCast_eq_zero_iff];omega
 rw [Rat.intCast_mul,Rat.natCast_mul,Rat.intCast_natCast];generalize hn:(q.num:Rat)=n at *;generalize hd:((q.den:Nat):Rat)=d at *;generalize hcc:((c:Nat):Rat)=c' at *;rw [e]
 grind
end Go.fG
namespace Go.fG
open Go Go.RowKit Go.Num Go.Mem
def Keep (l:List TypeId) (w w':World):Prop:=∀ b cs T,T∉l→aA w b cs T→aA w' b cs T
theorem Keep.of_below {w w':World} {l:List TypeId} (h:Bw w w'):Keep l w w':=fun _ _ _ _ hx=>hx.later h
theorem Keep.trans {a b c:World} {l:List TypeId} (h:Keep l a b) (k:Keep l b c):Keep l a c:=fun x cs T hT hx=>k x cs T hT (h x cs T hT hx)
theorem Keep.mono {a b:World} {l m:List TypeId} (h:Keep l a b) (k:∀ T,T∈l→T∈m):Keep m a b:=fun x cs T hT hx=>h x cs T (fun e=>hT (k T e)) hx
theorem Keep.setCell {w:World} {b:Nat} {T:TypeId} {o:Nat} {u:Value} (h:BH w b T):Keep [T] w (w.setCell ⟨b,o,none⟩ u):=fun x cs T' hT hx=>by
 obtain ⟨cs',hb⟩:=h;exact hx.setOther u (hx.ne hb (fun e=>hT (by simp [e])))
theorem Keep.others {w w':World} {row:Option Nat} (hg:w.grownBy w' row) (hr:∀ r,row=some r→∃ o:Obj,w.heap[r]? =some o∧o.isCells=false):Keep [] w w':=fun b cs T _ h=>by
 unfold aA at *;rw [hg.block b (Array.getElem?_eq_some_iff.1 h).1 ?_]
 ·exact h
 ·intro e;obtain ⟨o,ho,hc⟩:=hr b e.symm;rw [h] at ho;cases ho
  cases hc
theorem Keep.grown {w w':World} {base k:Nat} {e:TypeId} {s:Nat} {v:Value} {xs:List Value} (hown:w.ownsRow base e s v k xs) (hg:w.grownBy w' v.ownBlock):Keep [e] w w':=fun b cs T hT h=>by
 unfold aA at *;rw [hg.block b (Array.getElem?_eq_some_iff.1 h).1 ?_]
 ·exact h
 ·intro he;obtain ⟨-, ⟨rfl, -⟩|⟨g,cap,cur,rfl, -, hgg, -⟩⟩:=hown
  ·cases he
  ·simp only [Value.ownBlock,Option.some.injEq] at he;subst he;rw [h] at hgg;cases hgg
   exact hT zi
theorem Row.kept {l:List TypeId} {w w':World} {T:TypeId} {v:Value} {xs:List Value} (h:Row w T v xs) (k:Keep l w w') (hT:T∉l):Row w' T v xs:=by
 obtain ⟨a,cap,h1,h2,h3,h4,h5⟩:=h;refine ⟨a,cap,h1,h2,h3,h4,fun ad had=>?_⟩;obtain ⟨h6,arr,h7,h8⟩:=h5 ad had;exact ⟨h6,arr,k _ _ _ hT h7,h8⟩
theorem aZ.kept {l:List TypeId} {w w':World} {v:Value} {n:Nat} (h:aZ w v n) (k:Keep l w w') (hT:22∉l):aZ w' v n:=Row.kept h k hT
theorem dS.kept {l:List TypeId} {w w':World} {v:Value} {n:Int} (h:dS w v n) (k:Keep l w w') (hT:22∉l):dS w' v n:=by
 obtain ⟨pa,l,ca,h1,h2⟩:=h;exact ⟨pa,l,ca,h1,aZ.kept h2 k hT⟩
theorem sO.kept {l:List TypeId} {f:Nat→Int} {w w':World} (k:Keep l w w') (hT:22∉l) (i:Nat) (x y:Value) (h:sO f w i x y):sO f w' i x y:=by
 obtain ⟨pa,l,ca,h1,h2,h3⟩:=h;exact ⟨pa,l,ca,h1,h2,aZ.kept h3 k hT⟩
theorem jh.kept {l:List TypeId} {w w':World} {v:Value} {xs:List Int} (h:jh w v xs) (k:Keep l w w') (hT:22∉l) (hT2:206∉l):jh w' v xs:=by
 obtain ⟨a,cap,h1,h2,h3,h4,h5⟩:=h;refine ⟨a,cap,h1,h2,h3,h4,fun ad had=>?_⟩;obtain ⟨h6,arr,h7,h8⟩:=h5 ad had;refine ⟨h6,arr,k _ _ _ hT2 h7,fun i hi=>?_⟩;obtain ⟨x,y,k1,k2,k3⟩:=h8 i hi;exact ⟨x,y,k1,k2,sO.kept k hT _ _ _ k3⟩
theorem vC.kept {l:List TypeId} {w w':World} {T:TypeId} {v:Value} {xs:List Fr} (h:vC w T v xs) (k:Keep l w w') (hT:T∉l):vC w' T v xs:=by
 obtain ⟨a,cap,h1,h2,h3,h4,h5⟩:=h;refine ⟨a,cap,h1,h2,h3,h4,fun ad had=>?_⟩;obtain ⟨h6,arr,h7,h8⟩:=h5 ad had;exact ⟨h6,arr,k _ _ _ hT h7,h8⟩
theorem mK {l:List TypeId} {w w':World} {base k s:Nat} {e:TypeId} {v:Value} {xs:List Value} (h:w.ownsRow base e s v k xs) (hk:Keep l w w') (hT:e∉l):w'.ownsRow base e s v k xs:=by
 refine ⟨h.1,?_⟩
 rcases h.2 with hn|⟨g,cap,cur,rfl,hb,hgg,rest⟩
 ·exact .inl hn
 ·exact .inr ⟨g,cap,cur,rfl,hb,hk g cur e hT hgg,rest⟩
theorem yM {w w':World} {base k s:Nat} {e:TypeId} {v:Value} {xs:List Value} (h:w.ownsRow base e s v k xs) (hb:Bw w w'):w'.ownsRow base e s v k xs:=mK (l:=[]) h (Keep.of_below hb) zi
def vG {α β:Type} (R:α→β→Prop) (xs:List α) (ys:List β):Prop:=ys.length=xs.length∧∀ i (h:i<xs.length) (h':i<ys.length),R xs[i] ys[i]
theorem vG.nil {α β:Type} {R:α→β→Prop}:vG R [] []:=⟨rfl,fun i h=>by cases h⟩
theorem vG.snoc {α β:Type} {R:α→β→Prop} {xs:List α} {ys:List β} {x:α} {y:β} (h:vG R xs ys) (hr:R x y):vG R (xs++[x]) (ys++[y]):=by
 obtain ⟨h1,h2⟩:=h;refine ⟨by simp [h1],fun i h h'=>?_⟩
 by_cases hi:i<xs.length
 ·rw [List.getElem_append_left hi,List.getElem_append_left zo];exact h2 i hi zo
 ·have e:i=xs.length:=by simp at h;omega
  subst e;rw [List.getElem_append_right (aC _),List.getElem_append_right zo]
  simpa using hr
theorem vG.mono {α β:Type} {R S:α→β→Prop} {xs:List α} {ys:List β} (h:vG R xs ys) (k:∀ x y,R x y→S x y):vG S xs ys:=⟨h.1,fun i a b=>k _ _ (h.2 i a b)⟩
def Nu (w:World) (v:Value) (xss:List (List Int)):Prop:=∃ rs,Row w 200 v rs∧vG (fun xs r=>jh w r xs) xss rs
def NH (w:World) (v:Value) (ds:List Nat):Prop:=∃ rs,Row w 201 v rs∧vG (fun d r=>aZ w r d) ds rs
theorem Nu.later {w w':World} {v:Value} {xss:List (List Int)} (h:Nu w v xss) (hb:Bw w w'):Nu w' v xss:=by
 obtain ⟨rs,h1,h2⟩:=h;exact ⟨rs,h1.later hb,h2.mono fun _ _ h=>h.later hb⟩
theorem NH.later {w w':World} {v:Value} {ds:List Nat} (h:NH w v ds) (hb:Bw w w'):NH w' v ds:=by
 obtain ⟨rs,h1,h2⟩:=h;exact ⟨rs,h1.later hb,h2.mono fun _ _ h=>h.later hb⟩
end Go.fG
namespace Go.fG
open Go Go.Num
def mV (r s:List Rat):Rat:=(List.zipWith (· * ·) r s).foldl (· + ·) 0
def BS (f:Nat→Int):Nat→Int
 | 0=>0
 | k+1=>BS f k+f k
def xX (f:Nat→Rat):Nat→Rat
 | 0=>0
 | k+1=>xX f k+f k
theorem rF {f g:Nat→Rat}:∀ {n:Nat},(∀ i,i<n→f i=g i)→xX f n=xX g n
 | 0,_=>rfl
 | n+1,h=>by simp only [xX];rw [rF (fun i hi=>h i zo),h n zo]
theorem Iw (f:Nat→Int) (d:Rat):∀ n,((BS f n:Int):Rat) / d=xX (fun i=>((f i:Int):Rat) / d) n
 | 0=>by simp [BS,xX,Rat.div_def]
 | n+1=>by
  simp only [BS,xX];rw [← Iw f d n,Rat.intCast_add,Rat.div_def,Rat.div_def,Rat.div_def,Rat.add_mul]
theorem MK (xs:List Rat):xs.foldl (· + ·) 0=xX (fun i=>xs.getD i 0) xs.length:=by
 induction xs using vN with
 | h0=>rfl
 | h1 l a ih =>
  rw [List.foldl_append,ih,List.length_append,List.length_singleton];simp only [List.foldl_cons,List.foldl_nil,xX]
  congr 1
  ·exact rF fun i hi=>by simp [hi,eO]
  ·simp
theorem Tp {r s:List Rat} (h:s.length=r.length):mV r s=xX (fun i=>r.getD i 0*s.getD i 0) r.length:=by
 unfold mV;rw [MK,List.length_zipWith,h,Nat.min_self]
 exact rF fun i hi=>by
  have hs:i<s.length:=by omega
  simp [hi,hs,List.getElem?_zipWith]
theorem aw0 {r s:List Rat} (h:s.length=r.length) :
  ((BS (fun i=>(r.map (nE (gB r))).getD i 0*(s.map (nE (gB s))).getD i 0) r.length:Int):Rat) / ((gB r*gB s:Nat):Rat)=mV r s:=by
 rw [Tp h,Iw];refine rF fun i hi=>?_;have hs:i<s.length:=by omega
 obtain ⟨hr1,hr2⟩:=oI r;obtain ⟨hs1,hs2⟩:=oI s;have e1:=Rm hr1 (hr2 r[i] (dx hi));have e2:=Rm hs1 (hs2 s[i] (dx hs));have g1:(r.map (nE (gB r))).getD i 0=nE (gB r) r[i]:=by simp [hi]
 have g2:(s.map (nE (gB s))).getD i 0=nE (gB s) s[i]:=by simp [hs]
 have g3:r.getD i 0=r[i]:=by simp [hi]
 have g4:s.getD i 0=s[i]:=by simp [hs]
 rw [g1,g2,g3,g4,Rat.intCast_mul,Rat.natCast_mul];have n1:((gB r:Nat):Rat)≠0:=by rw [Ne,Rat.natCast_eq_zero_iff];omega
 have n2:((gB s:Nat):Rat)≠0:=by rw [Ne,Rat.natCast_eq_zero_iff];omega
 generalize ((nE (gB r) r[i]:Int):Rat)=a at *;generalize ((nE (gB s) s[i]:Int):Rat)=b at *;generalize ((gB r:Nat):Rat)=c at *;generalize ((gB s:Nat):Rat)=d at *;rw [← e1,← e2]
 grind
theorem Dj {qs:List Rat} (h:∀ q∈qs,jk q=true) (hl:qs.length≤4) (i:Nat):sz 1000000000 ((qs.map (nE (gB qs))).getD i 0).natAbs≤1000:=by
 by_cases hi:i<qs.length
 ·have g1:(qs.map (nE (gB qs))).getD i 0=nE (gB qs) qs[i]:=by simp [hi]
  rw [g1];unfold nE;have h1:=oC qs[i].num (gB qs / qs[i].den);have h2:=(lg (h _ (dx hi))).1;have h3:= @jC (gB qs) qs[i].den;have h4:=Dl qs h;omega
 ·have g1:(qs.map (nE (gB qs))).getD i 0=0:=by
   rw [cO,List.getElem?_eq_none (by rw [List.length_map];omega)];rfl
  rw [g1];simp [xu]
def quo (z y:Int):Int:=Mem.iR (z.natAbs / y.natAbs) (decide (z<0) != decide (y<0))
def aL0 (xs ys:List Int) (k:Nat) (d:Int) (j:Nat):Int:=quo (ys.getD k 0*xs.getD j 0+ -(xs.getD k 0*ys.getD j 0)) d
def comb (xs ys:List Int) (k:Nat) (d:Int):List Int:=(dB xs.length).map (aL0 xs ys k d)
abbrev IM:=List (List Int)
def IM.at (rs:IM) (i j:Nat):Int:=(rs.getD i []).getD j 0
def pick (rs:IM) (k:Nat):Option Nat:=(dB rs.length).find? fun i=>decide (k≤i)&& !decide (rs.at i k=0)
def ae7 (rs:IM) (i k:Nat):IM:=(rs.set i (rs.getD k [])).set k (rs.getD i [])
def Xk (rs:IM) (k:Nat) (p:Int) (i:Nat):List Int:=if i=k then rs.getD i [] else comb (rs.getD i []) (rs.getD k []) k p
def Xl (rs:IM) (k:Nat) (p:Int):IM:=(dB rs.length).map (Xk rs k p)
def elim:Nat→Nat→IM→Int→Bool→Int × Bool × IM
 | 0,_,rs,p,t=>(p,t,rs)
 | m+1,k,rs,p,t=>match pick rs k with
  | none=>(0,false,rs)
  | some i=>elim m (k+1) (Xl (if i=k then rs else ae7 rs i k) k p) ((if i=k then rs else ae7 rs i k).at k k) (if i=k then t else !t)
def IM.fits (rs:IM) (n c S:Nat):Prop:=rs.length=n∧(∀ i,i<n→(rs.getD i []).length=c)∧∀ i j,sz 1000000000 (rs.at i j).natAbs≤S
def ext (rs:IM):IM:=(dB rs.length).map fun i=>(dB (2*rs.length)).map fun j=>if j<rs.length then rs.at i j else if j=rs.length+i then 1 else 0
theorem IM.fits.mono {rs:IM} {n c S S':Nat} (h:rs.fits n c S) (k:S≤S'):rs.fits n c S':=⟨h.1,h.2.1,fun i j=>au (h.2.2 i j) k⟩
end Go.fG
namespace Go.fG
open Go Go.RowKit Go.Num Go.Mem
def Off (P:Nat) (v:Value):Prop:=∀ a m c,v= ah (some a) m c→a.block≠P
def nM (w:World) (P B off n:Nat) (f:Nat→List Int):Prop:=∃ arr,aA w B arr 200∧∀ i,i<n→∃ v,arr[off+i]? =some v∧jh w v (f i)∧Off P v
theorem nM.GH {w:World} {P B off n:Nat} {f:Nat→List Int} (h:nM w P B off n f):BH w B 200:=by
 obtain ⟨arr,h1, -⟩:=h;exact h1.GH
theorem nM.lt {w:World} {P B off n:Nat} {f:Nat→List Int} (h:nM w P B off n f):B<w.heap.size:=by
 obtain ⟨arr,h1, -⟩:=h;exact h1.lt
theorem nM.free {w:World} {P B off n:Nat} {f:Nat→List Int} (h:nM w P B off n f) (o:Nat):w.frozen? ⟨B,o,none⟩=false:=by
 obtain ⟨arr,h1, -⟩:=h;exact h1.free o
theorem nM.later {w w':World} {P B off n:Nat} {f:Nat→List Int} (h:nM w P B off n f) (hb:Bw w w'):nM w' P B off n f:=by
 obtain ⟨arr,h1,h2⟩:=h;refine ⟨arr,h1.later hb,fun i hi=>?_⟩;obtain ⟨v,k1,k2,k3⟩:=h2 i hi;exact ⟨v,k1,k2.later hb,k3⟩
theorem nM.get {w:World} {P B off n:Nat} {f:Nat→List Int} (h:nM w P B off n f) {i:Nat} (hi:i<n) :
  ∃ a c,w.cell? ⟨B,off+i,none⟩=some (.slice a (f i).length c)∧(f i).length≤c∧c≤9223372036854775807∧jh w (ah a (f i).length c) (f i)∧Off P (ah a (f i).length c):=by
 obtain ⟨arr,h1,h2⟩:=h;obtain ⟨v,k1,k2,k3⟩:=h2 i hi;obtain ⟨a,c,rfl,k4,k5, -⟩:=k2.read;exact ⟨a,c,(h1.cell _).trans k1,k4,k5,k2,k3⟩
theorem jh.elem {w:World} {P:Nat} {a:Option Addr} {m c:Nat} {l:List Int} (h:jh w (ah a m c) l) (ho:Off P (ah a m c)) {j:Nat} (hj:j<l.length) :
  ∃ b o pa n ca,a=some ⟨b,o,none⟩∧b≠P∧b<w.heap.size∧w.cell? ⟨b,o+j*2,none⟩=some (.slice pa n ca)∧w.cell? ⟨b,o+j*2+1,none⟩=some (.bool (decide (l.getD j 0<0)))∧aZ w (ah pa n ca) (l.getD j 0).natAbs:=by
 obtain ⟨a',c',e, -, -, h2⟩:=h.read;simp only [Value.slice.injEq] at e;obtain ⟨rfl,rfl,rfl⟩:=e;obtain ⟨b,o,pa,n,ca,rfl,k1,k2,k3,k4⟩:=h2 j hj;exact ⟨b,o,pa,n,ca,rfl,ho _ _ _ rfl,k1,k2,k3,k4⟩
theorem nM.set {w:World} {P B off n i:Nat} {f:Nat→List Int} {v:Value} {xs:List Int} (h:nM w P B off n f) (hi:i<n) (hv:jh w v xs) (ho:Off P v):nM (w.setCell ⟨B,off+i,none⟩ v) P B off n (fun j=>if j=i then xs else f j):=by
 have hB:=h.GH;obtain ⟨arr,h1,h2⟩:=h
 have hs:off+i<arr.size:=by
  obtain ⟨u,k1, -⟩:=h2 i hi;exact (Array.getElem?_eq_some_iff.1 k1).1
 refine ⟨arr.setIfInBounds (off+i) v,h1.set _ _,fun j hj=>?_⟩
 by_cases e:j=i
 ·subst e;refine ⟨v,?_,?_,ho⟩
  ·rw [Array.getElem?_setIfInBounds,if_pos rfl,if_pos hs]
  ·simp only [if_true];exact hv.kept (Keep.setCell hB) zd zd
 ·obtain ⟨u,k1,k2,k3⟩:=h2 j hj;refine ⟨u,?_,?_,k3⟩
  ·rw [Array.getElem?_setIfInBounds,if_neg zo,k1]
  ·simp only [if_neg e];exact k2.kept (Keep.setCell hB) zd zd
theorem jh.off {w:World} {v:Value} {l:List Int} (h:jh w v l) {P:Nat} (hP:w.heap.size≤P):Off P v:=by
 obtain ⟨a,cap,h1,h2,h3,h4,h5⟩:=h;intro ad m c e;rw [h1] at e;simp only [Value.slice.injEq] at e;obtain ⟨rfl, -, -⟩:=e;obtain ⟨-, arr,h7, -⟩:=h5 ad rfl;have:=h7.lt;omega
theorem nM.alloc {w:World} {P B off n:Nat} {f:Nat→List Int} (h:nM w P B off n f) (o:Obj):nM (w.alloc o) P B off n f:=h.later ((Below.refl _ _).alloc (aC _) _)
theorem nM.drew {w:World} {P B off n:Nat} {f:Nat→List Int} (h:nM w P B off n f):nM w.drew P B off n f:=h.later (Below.drew (Below.refl _ _))
def sM (w w':World) (B:Nat):Prop:=w.grownBy w' (some B)
theorem sM.refl (w:World) (B:Nat):sM w w B:=II w _
theorem sM.below {a w w':World} {B:Nat} (h:sM a w B) (hb:Bw w w'):sM a w' B :=
 ⟨hb.os.trans h.os,hb.tape.trans h.tape,hb.output.trans h.output,au h.size hb.size,fun i hi hne=>(hb.block i (aP hi h.size)).trans (h.block i hi hne)⟩
theorem sM.set {a w:World} {B:Nat} (h:sM a w B) (o:Nat) (u:Value):sM a (w.setCell ⟨B,o,none⟩ u) B:=wm h o u
theorem sM.UZ {a w:World} {B P:Nat} (h:sM a w B) (hP:a.heap.size≤P) (o:Nat) (u:Value):sM a (w.setCell ⟨P,o,none⟩ u) B :=
 ⟨h.os,h.tape,h.output,by simpa [World.setCell] using h.size,fun i hi hne=>(Below.heap_setCell w _ u i (by rintro rfl;exact absurd hi (by simp;omega))).trans (h.block i hi hne)⟩
theorem sM.size {a w:World} {B:Nat} (h:sM a w B):a.heap.size≤w.heap.size:=World.grownBy.size h
theorem sM.toBelow {b a w:World} {B:Nat} (h:sM a w B) (hb:Bw b a) (hB:b.heap.size≤B):Bw b w :=
 yj hb h hb.size hB
def om (w:World) (M n k:Nat) (f:Nat→List Fr):Prop :=
 ∃ arr,aA w M arr 130∧arr.size=n∧∀ i,i<k→∃ v,arr[i]? =some v∧vC w 38 v (f i)
theorem om.lt {w:World} {M n k:Nat} {f:Nat→List Fr} (h:om w M n k f):M<w.heap.size:=by
 obtain ⟨arr,h1, -⟩:=h;exact h1.lt
theorem om.GH {w:World} {M n k:Nat} {f:Nat→List Fr} (h:om w M n k f):BH w M 130:=by
 obtain ⟨arr,h1, -⟩:=h;exact h1.GH
theorem om.later {w w':World} {M n k:Nat} {f:Nat→List Fr} (h:om w M n k f) (hb:Bw w w'):om w' M n k f:=by
 obtain ⟨arr,h1,h2,h3⟩:=h;refine ⟨arr,h1.later hb,h2,fun i hi=>?_⟩;obtain ⟨v,k1,k2⟩:=h3 i hi;exact ⟨v,k1,k2.later hb⟩
theorem om.cell {w:World} {M n k:Nat} {f:Nat→List Fr} (h:om w M n k f) {j:Nat} (hj:j<n):(∃ x,w.cell? ⟨M,j,none⟩=some x)∧∀ o,w.frozen? ⟨M,o,none⟩=false:=by
 obtain ⟨arr,h1,h2, -⟩:=h;exact ⟨⟨arr[j]'zo,by rw [h1.cell];exact Array.getElem?_eq_getElem _⟩,h1.free⟩
theorem aA.uniq {w:World} {b:Nat} {cs cs':Array Value} {T T':TypeId} (h:aA w b cs T) (h':aA w b cs' T'):cs=cs':=by
 unfold aA at *;rw [h] at h'
 injection h' with e
 injection e
theorem sM.box {w w':World} {M b:Nat} {cs:Array Value} {T:TypeId} (h:sM w w' M) (hb:aA w b cs T) (hne:b≠M):aA w' b cs T:=by
 have hl:=hb.lt;unfold aA at *;rw [World.grownBy.block h b hl (by simpa using hne)];exact hb
theorem vC.near {w w':World} {M:Nat} {T T':TypeId} {v:Value} {l:List Fr} (h:vC w T v l) (k:sM w w' M) (hM:BH w M T') (hT:T≠T'):vC w' T v l:=by
 obtain ⟨a,cap,h1,h2,h3,h4,h5⟩:=h;refine ⟨a,cap,h1,h2,h3,h4,fun ad had=>?_⟩;obtain ⟨h6,arr,h7,h8⟩:=h5 ad had;obtain ⟨cs,hM⟩:=hM;exact ⟨h6,arr,k.box h7 (h7.ne hM hT),h8⟩
theorem om.step {w w':World} {M n k:Nat} {f:Nat→List Fr} {v:Value} (h:om w M n k f) (hk:k<n) (hn:sM w w' M)
  (hb:∀ arr,aA w M arr 130→aA w' M (arr.setIfInBounds k v) 130) (hv:vC w' 38 v (f k)):om w' M n (k+1) f:=by
 have hM:=h.GH;obtain ⟨arr,h1,h2,h3⟩:=h;refine ⟨arr.setIfInBounds k v,hb _ h1,by simp [h2],fun i hi=>?_⟩
 rcases aH i k with h|h
 ·obtain ⟨u,k1,k2⟩:=h3 i h;refine ⟨u,?_,k2.near hn hM zd⟩;rw [Array.getElem?_setIfInBounds,if_neg zo,k1]
 ·obtain rfl:i=k:=by omega
  refine ⟨v,?_,hv⟩;rw [Array.getElem?_setIfInBounds,if_pos rfl,if_pos zo]
theorem om.aT9 {w:World} {M:Nat} {m:List (List Fr)} (h:om w M m.length m.length (fun i=>m.getD i [])) (hm:m.length≤1000000):nQ w (ah (some ⟨M,0,none⟩) m.length m.length) m:=by
 obtain ⟨arr,h1,h2,h3⟩:=h;refine ⟨arr.toList,Row.mk ?_ ?_ zo h1 ?_,?_,?_⟩
 ·simp [h2]
 ·simp [h2]
 ·intro i hi;rw [dP];simp at hi
  simp [hi]
 ·simp [h2]
 ·intro i hi hi';obtain ⟨v,k1,k2⟩:=h3 i hi'
  have e:arr.toList[i]=v:=by
   rw [Array.getElem_toList];exact (Array.getElem?_eq_some_iff.1 k1).2
  rw [e];have e2:m.getD i []=m[i]:=by simp [hi']
  rw [← e2];exact k2
def lK (w:World) (er:Int) (m:List (List Fr)) (e:Ending) (w':World):Prop :=
 Bw w w'∧∃ v,e= aj (aD #[v,Z I er])∧(er=0→nQ w' v m)∧(er≠0→v= ah none 0 0)
theorem lK.no {w w':World} {er:Int} {m:List (List Fr)} (hb:Bw w w') (he:er≠0):lK w er m (aj (aD #[ah none 0 0,Z I er])) w' :=
 ⟨hb,_,rfl,fun h=>absurd h he,fun _=>rfl⟩
theorem lK.yes {w w':World} {m:List (List Fr)} {v:Value} (hb:Bw w w') (hv:nQ w' v m):lK w 0 m (aj (aD #[v,Z I 0])) w' :=
 ⟨hb,_,rfl,fun _=>hv,fun h=>absurd rfl h⟩
def Fr.zero:Fr:=⟨⟨#[48]⟩,⟨#[49]⟩⟩
def Fr.one:Fr:=⟨⟨#[49]⟩,⟨#[49]⟩⟩
theorem Fill.put {w:World} {G n j:Nat} {T:TypeId} {f:Nat→Fr} {x:Fr} (h:Fill w G T n n (KW f)) (hj:j<n) :
  Fill ((w.setCell ⟨G,j*2,none⟩ (O x.n)).setCell ⟨G,j*2+1,none⟩ (O x.d)) G T n n (KW fun c=>if c=j then x else f c):=by
 obtain ⟨arr,h1,h2,h3⟩:=h;refine ⟨(arr.setIfInBounds (j*2) (O x.n)).setIfInBounds (j*2+1) (O x.d),(h1.set _ _).set _ _,by simp [h2],fun i hi=>?_⟩
 by_cases e:i=j
 ·subst e;refine ⟨O x.n,O x.d,?_,?_,?_⟩
  ·rw [Array.getElem?_setIfInBounds,if_neg zo,Array.getElem?_setIfInBounds,if_pos rfl,if_pos zo]
  ·rw [Array.getElem?_setIfInBounds,if_pos rfl,if_pos (by simp;omega)]
  ·unfold KW;simp only [if_true,and_self]
 ·obtain ⟨x',y',k1,k2,k3⟩:=h3 i hi;refine ⟨x',y',?_,?_,?_⟩
  ·rw [Array.getElem?_setIfInBounds,if_neg zo,Array.getElem?_setIfInBounds,if_neg zo,k1]
  ·rw [Array.getElem?_setIfInBounds,if_neg zo,Array.getElem?_setIfInBounds,if_neg zo,k2]
  ·unfold KW at *;simp only [if_neg e];exact k3
theorem Fill.aq8 {w w':World} {g:Nat} {T:TypeId} {n k:Nat} {f:Nat→Fr} (h:Fill w g T n k (KW f)) (hb:Bw w w'):Fill w' g T n k (KW f):=h.later hb (fun _ _ _ h=>h)
theorem Fill.frs {w:World} {g:Nat} {T:TypeId} {n:Nat} {l:List Fr} (h:Fill w g T n n (KW fun i=>l.getD i Fr.no)) (hn:l.length=n) (hl:n≤1000000):vC w T (ah (some ⟨g,0,none⟩) n n) l:=by
 subst hn;exact vC.Db h hl
theorem Fill.aw6 {w:World} {g:Nat} {T:TypeId} {n k:Nat} {f f':Nat→Fr} (h:Fill w g T n k (KW f)) (e:∀ i,i<k→f i=f' i):Fill w g T n k (KW f'):=by
 obtain ⟨arr,h1,h2,h3⟩:=h;refine ⟨arr,h1,h2,fun i hi=>?_⟩;obtain ⟨x,y,k1,k2,k3⟩:=h3 i hi;refine ⟨x,y,k1,k2,?_⟩;unfold KW at *;rw [← e i hi];exact k3
end Go.fG
namespace Go.Proofs.matrix
open Go Go.RowKit Go.SW Go.Num Go.Mem Go.Proofs Go.Dec Go.fG
theorem ar3:(Tryz.prog.info? 130).map (fun i=>(i.zero,i.size,i.bytes))=some (some (.slice none 0 0),1,24):=by kernel_rfl
theorem Wh:(Tryz.prog.info? 38).map (fun i=>(i.zero,i.size,i.bytes))=some (some (.agg #[O ⟨#[]⟩,O ⟨#[]⟩]),2,32):=by kernel_rfl
theorem VL (n:Nat) (hn:n≤1000):∃ cs:Array Value,cs.size=n*2∧∀ W:World,(Instr.makeSlice 130 (Z I (n:Int)) (Z I (n:Int))).run Tryz.prog W= .ok (ah (some ⟨W.heap.size,0,none⟩) n n) (W.alloc (.cells cs 38)):=by
 obtain ⟨i0,hi,hz0,hz1,hz2⟩:=info_parts Wh;refine ⟨madeCells (Value.agg #[O ⟨#[]⟩,O ⟨#[]⟩]).cells (n*2),size_madeCells _ _,fun W=>?_⟩;have:=run_makeSlice (P:=Tryz.prog) W 130 38 i0 (aB #[O ⟨#[]⟩,O ⟨#[]⟩]) Tryz.underlying130 hi hz0 .i64 .i64 (n:Int) (n:Int) zo (Int.le_refl _) (by rw [hz1];simp;omega) (by rw [hz2];omega) zo;rw [hz1] at this
 simpa using this
theorem VK (n:Nat) (hn:n≤1000):∃ cs:Array Value,cs.size=n∧∀ W:World,(Instr.makeSlice 126 (Z I (n:Int)) (Z I (n:Int))).run Tryz.prog W= .ok (ah (some ⟨W.heap.size,0,none⟩) n n) (W.alloc (.cells cs 130)):=by
 obtain ⟨i0,hi,hz0,hz1,hz2⟩:=info_parts ar3;refine ⟨madeCells (Value.slice none 0 0).cells n,size_madeCells _ _,fun W=>?_⟩;have:=run_makeSlice (P:=Tryz.prog) W 126 130 i0 (ah none 0 0) Tryz.underlying126 hi hz0 .i64 .i64 (n:Int) (n:Int) zo (Int.le_refl _) (by rw [hz1];simp;omega) (by rw [hz2];omega) zo;rw [hz1] at this
 simpa using this
theorem om.an7 {w:World} {g n:Nat} {cs:Array Value} {f:Nat→List Fr} (h:aA w g cs 130) (hs:cs.size=n):om w g n 0 f:=⟨cs,h,hs,fun i h=>by omega⟩
end Go.Proofs.matrix
namespace Go.Proofs.light
open Go Go.RowKit Go.SW Go.Num Go.Mem Go.Proofs Go.Dec Go.fG
structure ig where
 x:Fr
 y:Fr
 z:Fr
deriving DecidableEq
def ig.cells (t:ig):Array Value:=#[O t.x.n,O t.x.d,O t.y.n,O t.y.d,O t.z.n,O t.z.d]
def ig.v (t:ig):Value:=aB t.cells
def ig.get (t:ig) (i:Nat):Fr:=if i=0 then t.x else if i=1 then t.y else t.z
def ig.list (t:ig):List Fr:=[t.x,t.y,t.z]
def enc (t:ig) (k:Fin 3):Array Value:=#[Z I (k.1:Int),(t.get k.1).v]
def upto (k:Nat) (h:k≤3):List (Fin 3):=List.ofFn (n:=k) fun i=>⟨i.1,aP i.2 h⟩
theorem sU {k:Nat} (h:k+1≤3):upto (k+1) h=upto k zo++[⟨k,h⟩]:=by
 unfold upto;rw [List.ofFn_succ_last];rfl
theorem kK {k:Nat} (h:k≤3):(upto k h).length=k:=by simp [upto]
end Go.Proofs.light
namespace Go.Proofs.matrix
open Go Go.RowKit
theorem vS (P:Program) (w:World) (dT sT ty elem:TypeId) (g o dLen dCap size:Nat) (a:Addr) (sLen sCap:Nat) (cur:Array Value) (t:TypeId) (cs:List Value)
  (hu:P.underlying dT=some (.slice elem)) (hs:(P.info? elem).map (·.size)=some size)
  (hg:w.heap[g]? =some (.cells cur t (0,0))) (hn:cs.length=Nat.min sLen dLen*size)
  (hsrc:∀ j v,cs[j]? =some v→w.cell? (a.add j)=some v) (hfit:o+cs.length≤cur.size) (h1:∀ v∈cs,v.oneCell'=true) :
  (Builtin.copy_ #[dT,sT] ty #[ah (some ⟨g,o,none⟩) dLen dCap,ah (some a) sLen sCap]).run P w =
   .ok (goInt (Nat.min sLen dLen)) (w.setRow g (cur.toList.take o++cs++cur.toList.drop (o+cs.length)).toArray):=by
 have hl:=run_loadCells_list (P:=P) w a cs hsrc;have hst:=run_storeCells_at P g o t cs 0 cur w hg (by simpa using hfit) h1;cases hq:P.info? elem with
 | none=>simp [hq] at hs
 | some i =>
  have hi:i.size=size:=by simpa [hq] using hs
  simp [Builtin.copy_,run_underlying hu,Builtin.lenOf,Builtin.firstCells,sizeOf,typeInfo,hq,hi,← hn,hl,hst]
end Go.Proofs.matrix
namespace Go.Fx
open Go Go.RowKit Go.SW Go.Num Go.Mem Go.Proofs
section
variable {P:Program} {n:Nat} {R:Post} {w0:World} {H0:List Nat} {p:Pos} {S:Sl} {L:Mm}
theorem EH {w:World} {tmps:Array Value} {fn:Func} {p q:Tmp} {ty AP t t2:TypeId} {g g2:Nat} {cs cs2:Array Value} {d d2:TypeDesc} (h:fn.results=#[.cell p ty,.cell q AP])
  (hp:tmps.getD p undef= ay (some ⟨g,0,none⟩)) (hg:aA w g cs t) (hu:P.underlying ty=some d) (hd:PV d=true) (hi:(P.info? ty).map (·.size)=some cs.size)
  (hp2:tmps.getD q undef= ay (some ⟨g2,0,none⟩)) (hg2:aA w g2 cs2 t2) (hu2:P.underlying AP=some d2) (hd2:PV d2=true) (hi2:(P.info? AP).map (·.size)=some cs2.size) :
  (results fn tmps).run P w= .ok (aD #[aB cs,aB cs2]) w:=by
 have e:(results fn tmps).run P w=((asAddr (tmps.getD p undef)).run P w).andThen fun a w₁=>((loadVar ty a).run P w₁).andThen fun v w₂=>((asAddr (tmps.getD q undef)).run P w₂).andThen fun a' w₃=>((loadVar AP a').run P w₃).andThen fun v' w₄=>.ok (aD #[v,v']) w₄:=by
  simp only [results,h];simp [Sem.run_bind,Result.andThen]
 rw [e,hp];simp only [asAddr,Sem.run_pure,Result.andThen_ok];rw [run_loadVar_row w g t ty cs (0,0) d hg hu (by cases d<;>exact hd) hi];simp only [Result.andThen_ok];rw [hp2];simp only [Sem.run_pure,Result.andThen_ok];rw [run_loadVar_row w g2 t2 AP cs2 (0,0) d2 hg2 hu2 (by cases d2<;>exact hd2) hi2];rfl
theorem EJ (j b j2 b2:Nat) (hs:List Nat) (U:List (Nat × Array Value)) {fn:Func} {E:Ending→World→Prop} {t t2:Tmp} {ty AP:TypeId} {cs cs2:Array Value} (hE:∀ w,Mem w0 H0 (upd L U) w→E (.returned (.tuple #[.agg cs,.agg cs2])) w) (hr:fn.results=#[.cell t ty,.cell t2 AP]:=by rfl)
  (h:N8 P n w0 (tr 4000 hs p).1 S L (upd L U):=by intro _;kernel_rfl) (hp:((tr 4000 hs p).2.IQ,blk (upd L U) j,blk (upd L U) j2)=(true,some b,some b2):=by kernel_rfl) (hv:U5 P (AO P n w0 (tr 4000 hs p).1 S L) (upd L U) t j ty=some (some (.pointer (some ⟨b,0,none⟩)),cs,true,some cs.size):=by kernel_rfl) (hv2:U5 P (AO P n w0 (tr 4000 hs p).1 S L) (upd L U) t2 j2 AP=some (some (.pointer (some ⟨b2,0,none⟩)),cs2,true,some cs2.size):=by kernel_rfl):G P n (Ends P n fn E) w0 H0 p S L:=by
 simp only [Prod.mk.injEq] at hp;refine goR hs _ h (vU hp.1 fun w hM a ha=>⟨.tuple #[.agg cs,.agg cs2],?_,hE w hM⟩);obtain ⟨d,T,a1,a2,a3,a4,a5⟩:=uY hM ha hp.2.1 hv;obtain ⟨d2,T2,c1,c2,c3,c4,c5⟩:=uY hM ha hp.2.2 hv2;rw [EH hr a1 a2 a3 a4 a5 c1 c2 c3 c4 c5]
end
section
variable {P:Program} {n:Nat} {fn:Func} {T:Int→Ending} {w0:World} {V:Value} {k:Int} {p:Pos} {S:Sl} {L:Mm}
end
section
variable {P:Program}
theorem map_set (w:World) (es es':Array MapEntry) (c c':Nat):{ w.alloc (.map es c) with heap:=(w.alloc (.map es c)).heap.setIfInBounds w.heap.size (.map es' c') }=w.alloc (.map es' c'):=by
 simp only [World.alloc]
 congr 1
 apply Array.ext'
 simp [Array.setIfInBounds,Array.toList_push]
end
end Go.Fx
namespace Go.Fx
open Go Go.RowKit Go.SW Go.Num Go.Mem Go.Proofs
section
variable {P:Program} {n:Nat} {fn:Func} {T:Int→Ending} {w0:World} {H0:List Nat} {V:Value} {k:Int} {p:Pos} {S:Sl} {L:Mm}
theorem nK {wb:World} (hT:∀ k,∃ c,T k= .panicked c) (hs:List Nat) (d:Nat) (St:Sl) (U:List (Nat × Array Value)) {f:FuncId} {args:Array Value} {v:Value} {k1:Int} {A:Prop} (hC:∀ w,Mem w0 H0 (upd L U) w→Calls P f args w (KH T w v k1)) (hB:∀ w,Mem w0 H0 (upd L U) w→Bw wb w) (hn:(k1=0∧A)∨(k1≠0∧k=k1))
  (hc:k1=0→A→G P n (Ends P n fn (KH T wb V k)) w0 H0 (tr 4000 hs p).2.past ((d,v)::(St++S)) (upd L U))
  (h:Gy P n w0 (tr 4000 hs p).1 S L St (upd L U):=by intro _;kernel_rfl) (hx:∀ w,sJ P n w (AO P n w0 (tr 4000 hs p).1 S L) (tr 4000 hs p).2=some (d,f,args,w):=by intro _;kernel_rfl):G P n (Ends P n fn (KH T wb V k)) w0 H0 p S L:=by
 refine WL hs St _ h ?_;have hsub:=h.sub;have hh:=tT (hx w0);generalize AO P n w0 (tr 4000 hs p).1 S L=F at hx hsub ⊢;generalize (tr 4000 hs p).2=q at hc hx hh;generalize upd L U=L at hC hc hB;generalize St++S=S at hc hsub;obtain ⟨ops,o,hn',hf,hw,hd,hlt, -⟩:=kG (h:=hx w0);refine place hn' hf hw (Y:=fun N H w a a' w1=>a'=a.put (some d) v∧Bw w w1∧k1=0∧A) (fun w N H hM hok a ha K hK ks=>?_) fun w N H hM hok a a' w' ha hy=>?_
 ·obtain ⟨ops',o',hn2, -, -, -, -, hr⟩:=kG (h:=hx w);rw [hn'] at hn2;cases hn2
  unfold Oper.wp;rw [ha.exec hf,hr];simp only [Oper.upon];refine (hC w hM).mono fun e w' he=>?_;obtain ⟨hb,⟨h1,rfl⟩|⟨h1,rfl⟩⟩:=he
  ·rw [hd]
   rcases hn with ⟨-, hA⟩|⟨h2, -⟩
   ·exact hK _ _ ⟨rfl,hb,h1,hA⟩
   ·exact absurd h1 h2
  ·obtain ⟨c,hc'⟩:=hT k1
   rcases hn with ⟨h2, -⟩|⟨h2,h3⟩
   ·exact absurd h2 h1
   ·rw [hc'];refine ⟨ha.defers,F,yU ?_ ks⟩
    show KH T wb V k (.panicked c) w'
    exact ⟨Bt (hB w hM) hb,.inr ⟨by rw [h3];exact h1,by rw [h3,hc']⟩⟩
 ·obtain ⟨rfl,h1,h2,h3⟩:=hy;exact ⟨fun _ _ _ _ _ _=>.of h1,_,ha.put hlt v,((hc h2 h3).of (mY hsub d v) hh).out w' N H (hM.later h1) (zN hok (fun _=>rfl) rfl)⟩
end
def Pt (n:Nat) (S:Sl) (p:Pos):Option (Nat × Array TypeId × TypeId × Array Value):=match p.next with
 | some (ops,o)=>(match fit ops S o,Region.wanted o (yl ops S),o.dst,o.op with
  | true,true,some d,.call ⟨.builtin .copy,av,ts⟩=>(match Nat.blt d n with
   | true=>some (d,ts,o.type,av.map (ev S))
   | false=>none)
  | _,_,_,_=>none)
 | none=>none
section
variable {P:Program} {n:Nat} {R:Post} {w0:World} {H0:List Nat} {p:Pos} {S:Sl} {L:Mm}
theorem Tv {d:Nat} {ts:Array TypeId} {ty:TypeId} {vs:Array Value} (h:Pt n S p=some (d,ts,ty,vs)) :
  ∃ ops o,p.next=some (ops,o)∧fit ops S o=true∧Region.wanted o (yl ops S)=true∧o.dst=some d∧d<n∧∀ (P:Program) (w w':World) (r:Value),(Builtin.copy_ ts ty vs).run P w= .ok r w'→(execOp (ev S) o).run P w= .ok (.value r) w':=by
 unfold Pt at h;split at h
 ·rename_i ops o ho;split at h
  ·rename_i d' av ts' hf hw hd hop;split at h
   ·rename_i hb;cases h
    refine ⟨ops,o,ho,hf,hw,hd,Nat.le_of_ble_eq_true hb,fun P w w' r hr=>?_⟩;simp [execOp,hop,resolve,invoke,builtin,hr,Result.andThen]
   ·cases h
  ·cases h
 ·cases h
theorem aK9 (m:Nat) (hs:List Nat) (d j:Nat) (St:Sl) (U:List (Nat × Array Value)) {dT sT ty elem:TypeId} {b off dl dc sl sc size:Nat} {ad:Addr} {cur:Array Value} {T:TypeId} (cs:List Value) (new:Array Value) (cnt:Value)
  (hsrc:∀ w,Mem w0 H0 (upd L U) w→∀ i v,cs[i]? =some v→w.cell? (ad.add i)=some v) (hu:P.underlying dT=some (.slice elem)) (hz:(P.info? elem).map (·.size)=some size)
  (hc:G P n R w0 H0 (tr m hs p).2.past ((d,cnt)::(St++S)) (yI (upd L U) j new))
  (hj:((upd L U)[j]?).map (fun x=>(x.b,x.T,x.cs,x.o,(tr m hs p).2.may j))=some (b,T,cur,true,true):=by kernel_rfl)
  (hn:(cs.length,Nat.ble (off+cs.length) cur.size,new,cnt)=(Nat.min sl dl*size,true,(cur.toList.take off++cs++cur.toList.drop (off+cs.length)).toArray,goInt (Nat.min sl dl)):=by kernel_rfl)
  (h1:∀ v∈cs,v.oneCell'=true:=by simp [Value.oneCell'])
  (h:Gy P n w0 (tr m hs p).1 S L St (upd L U):=by intro _;kernel_rfl) (hx:Pt n (AO P n w0 (tr m hs p).1 S L) (tr m hs p).2=some (d,#[dT,sT],ty,#[.slice (some ⟨b,off,none⟩) dl dc,.slice (some ad) sl sc]):=by kernel_rfl):G P n R w0 H0 p S L:=by
 obtain ⟨x,hx1,hx2⟩:=Option.map_eq_some_iff.1 hj;simp only [Prod.mk.injEq] at hx2 hn;obtain ⟨rfl,rfl,rfl,e3,e4⟩:=hx2;obtain ⟨n1,n2,rfl,rfl⟩:=hn;refine WL hs St _ h ?_;have hsub:=h.sub;generalize AO P n w0 (tr m hs p).1 S L=F at hx hsub ⊢;generalize (tr m hs p).2=q at hc hx e4;generalize upd L U=L at hsrc hc hx1;generalize St++S=S at hc hsub;obtain ⟨ops,o,hn',hf,hw,hd,hlt,hrun⟩:=Tv hx;obtain ⟨new,hnew⟩:∃ y,(x.cs.toList.take off++cs++x.cs.toList.drop (off+cs.length)).toArray=y:=⟨_,rfl⟩;rw [hnew] at hc;refine place hn' hf hw (Y:=fun N H w a a' w'=>a'=a.put (some d) (goInt (Nat.min sl dl))∧vg [x.b] w w'∧Mem w0 H0 (yI L j new) w') (fun w N H hM hok a ha K hK ks=>?_) fun w N H hM hok a a' w' ha hy=>?_
 ·have hX:=hM.all _ x hx1;have hr:=hrun P w _ _ (Go.Proofs.matrix.vS P w dT sT ty elem x.b off dl dc size ad sl sc x.cs x.T cs hu hz hX n1 (hsrc w hM) (Nat.le_of_ble_eq_true n2) h1);rw [hnew] at hr;have hst:Stored w (w.setRow x.b new) x.b:=⟨rfl,rfl,rfl,by simp [World.setRow],fun i hi=>setRow_other w x.b i new (fun e=>hi e)⟩;unfold Oper.wp;rw [ha.exec hf,hr];simp only [Oper.upon];rw [hd];exact hK _ _ ⟨rfl,.stored hst,hM.set hx1 e3 (.stored hst) (setRow_heap w x.b x.cs new x.T _ hX)⟩
 ·obtain ⟨rfl,h2,h3⟩:=hy;refine ⟨fun ops' Hj is A k e=>?_,_,ha.put hlt _,(hc.of (mY hsub d _) (Bg hn')).out w' N H h3 (zN hok (fun i=>by rw [Ni]) Lc)⟩;subst e;exact ⟨h2.os,h2.tape,h2.output,h2.size,fun i hi hnm=>h2.block i hi fun hm=>hnm (by rw [hok.2.2.2.1];simp only [List.mem_singleton] at hm;subst hm;exact Ru hx1 e4)⟩
end
end Go.Fx
namespace Go.Fx
open Go Go.RowKit Go.SW Go.Mem
section
variable {P:Program} {n:Nat} {R:Post} {w0:World} {H0:List Nat} {p:Pos} {S:Sl} {L:Mm}
theorem Mem.two {w:World} {b c:Nat} {cs ds:Array Value} {T U:TypeId} (hb:aA w b cs T) (hc:aA w c ds U) (hne:b≠c):Mem w [b,c] [⟨b,cs,T,true⟩,⟨c,ds,U,true⟩] w:=by
 have key:∀ (j:Nat) (x:Bx),[(⟨b,cs,T,true⟩:Bx),⟨c,ds,U,true⟩][j]? =some x→(j=0∧x=⟨b,cs,T,true⟩)∨(j=1∧x=⟨c,ds,U,true⟩):=fun j x h=>by
  match j,h with
  | 0,h=>simp at h;exact .inl ⟨rfl,h.symm⟩
  | 1,h=>simp at h;exact .inr ⟨rfl,h.symm⟩
  | j+2,h=>simp at h
 refine ⟨fun j x h=>?_,fun i j x y h k hne' _=>?_,fun j x h _=>?_,vg.refl w⟩
 ·rcases key j x h with ⟨-, rfl⟩|⟨-, rfl⟩
  ·exact hb
  ·exact hc
 ·rcases key i x h with ⟨rfl,rfl⟩|⟨rfl,rfl⟩<;>rcases key j y k with ⟨rfl,rfl⟩|⟨rfl,rfl⟩
  ·exact absurd rfl hne'
  ·exact hne
  ·exact hne.symm
  ·exact absurd rfl hne'
 ·rcases key j x h with ⟨-, rfl⟩|⟨-, rfl⟩<;>exact .inl zi
theorem F5 {c:Code} {a:Act} {w:World} (hG:G P n R w H0 (.code c []) S L) (hM:Mem w H0 L w) (ha:xK n S a):c.wp P (lift n R) a w:=hG.out w 0 [] hM trivial a ha
theorem av6 (hs:List Nat) (U:List (Nat × Array Value)) (hR:∀ S w,Mem w0 H0 (upd L U) w→R .normal S w) (h:N8 P n w0 (tr 4000 hs p).1 S L (upd L U):=by intro _;kernel_rfl) (hq:(tr 4000 hs p).2= .nx .normal []:=by kernel_rfl):G P n R w0 H0 p S L:=by
 refine goR hs _ h ?_;rw [hq];exact ⟨fun w N H hM _=>hR _ w hM⟩
theorem ao1 {a:Act} {x y z:Value} (hd:a.defers=[]) (h:(a.tmps.size,a.tmps.getD 0 undef,a.tmps.getD 1 undef,a.tmps.getD 2 undef)=(n,x,y,z)):xK n [(0,x),(1,y),(2,z)] a:=by
 simp only [fP] at h;obtain ⟨h0,rfl,rfl,rfl⟩:=h;refine ⟨h0,fun i v hv=>?_,hd⟩
 match i,hv with
 | 0,hv=>cases hv;rfl
 | 1,hv=>cases hv;rfl
 | 2,hv=>cases hv;rfl
 | i+3,hv=>cases hv
end
end Go.Fx
namespace Go.Proofs.fM
open Go Go.RowKit Go.SW Go.Num Go.Mem Go.Proofs Go.Dec Go.fG
def q2 (n d:Int):Rat:=(n:Rat) / (d:Rat)
end Go.Proofs.fM
namespace Go.SW
open Go Go.RowKit
variable {P:Program} {ops:Array Oper} {Q:Exit→Act→World→Prop}
def Nt (x y:Nat):Nat→List Oper→List Oper
 | _,[]=>[]
 | k,o::l=>(match k.beq y with
  | true=>⟨o.dst,o.op,o.type,o.pos,o.after.push ⟨x,.chain⟩,o.guard⟩
  | false=>o)::Nt x y (k+1) l
def nG (x y:Nat) (ops:Array Oper):Array Oper:=(Nt x y 0 ops.toList).toArray
def wait (x:Nat) (o:Oper):Oper:=⟨o.dst,o.op,o.type,o.pos,o.after.push ⟨x,.chain⟩,o.guard⟩
theorem Ns (x y:Nat):∀ (l:List Oper) (k i:Nat),(Nt x y k l)[i]? =(l[i]?).map fun o=>if k+i=y then wait x o else o
 | [],_,_=>by simp [Nt]
 | o::l,k,0=>by
  unfold Nt;rw [List.getElem?_cons_zero,List.getElem?_cons_zero];cases h:k.beq y with
  | true=>rw [Nat.eq_of_beq_eq_true h];simp [wait]
  | false =>
   have:=Nat.ne_of_beq_eq_false h;simp [this]
 | o::l,k,i+1=>by
  unfold Nt;rw [List.getElem?_cons_succ,List.getElem?_cons_succ,Ns x y l (k+1) i];have:k+1+i=k+(i+1):=by omega
  rw [this]
theorem Au (x y i:Nat) (ops:Array Oper):(nG x y ops)[i]? =(ops[i]?).map fun o=>if i=y then wait x o else o:=by
 unfold nG;rw [List.getElem?_toArray,Ns,dP,Array.getElem?_toList]
theorem Cg (x y:Nat):∀ (l:List Oper) (k:Nat),(Nt x y k l).length=l.length
 | [],_=>rfl
 | o::l,k=>by unfold Nt;rw [aV,aV,Cg x y l]
theorem Jd (x y:Nat) (ops:Array Oper):(nG x y ops).size=ops.size:=by
 unfold nG;rw [List.size_toArray,Cg,Array.length_toList]
theorem KF (x y:Nat) (tmps:Array Value) (g:Nat):yielded (nG x y ops) tmps g=yielded ops tmps g:=by
 unfold yielded;rw [Au];cases ops[g]? with
 | none=>rfl
 | some o =>
  have e:(if g=y then wait x o else o).dst=o.dst:=by split<;>rfl
  simp only [Option.map_some,Option.bind_some,e]
theorem yZ (x y:Nat):∀ (l:List Nat) (a:Act) (w:World),wpOps P (nG x y ops) Q l a w→wpOps P ops Q l a w
 | [],_,_,h=>h
 | i::l,a,w,h=>by
  have ih:=yZ x y l;unfold wpOps at h ⊢;rw [Au] at h;have hy:yielded (nG x y ops) a.tmps=yielded ops a.tmps:=funext fun g=>KF x y _ g;rw [hy] at h;cases ho:ops[i]? with
  | none =>
   simp only [ho,Option.map_none] at h ⊢;exact ih _ _ h
  | some o =>
   simp only [ho,Option.map_some] at h ⊢
   by_cases hi:i=y
   ·simp only [hi,if_true] at h;have e1:Region.wanted (wait x o) (yielded ops a.tmps)=Region.wanted o (yielded ops a.tmps):=rfl;rw [e1] at h;split
    ·rename_i hw;simp only [hw,if_true] at h
     rcases h with h|h
     ·exact .inl (Oper.wp_mono ih h)
     ·exact .inr h
    ·rename_i hw;simp only [hw,if_false,cK] at h;exact ih _ _ h
   ·simp only [hi,if_false] at h;split
    ·rename_i hw;simp only [hw,if_true] at h
     rcases h with h|h
     ·exact .inl (Oper.wp_mono ih h)
     ·exact .inr h
    ·rename_i hw;simp only [hw,if_false,cK] at h;exact ih _ _ h
theorem vW {x y i:Nat} {listed:Array Bool} (h:i∈Region.ready .any ops listed) (hy:i=y→listed.getD x false=true):i∈Region.ready .any (nG x y ops) listed:=by
 obtain ⟨h1,o,h2,h3⟩:=mem_ready.1 h;refine mem_ready.2 ⟨h1,_,by rw [Au,h2];rfl,fun e he hb=>?_⟩;split at he
 ·rename_i hi
  rcases Array.mem_push.1 he with he|he
  ·exact h3 e he hb
  ·rw [he];exact hy hi
 ·exact h3 e he hb
theorem LB {x y i:Nat} {listed:Array Bool} (h:i∈Region.ready .any (nG x y ops) listed):i∈Region.ready .any ops listed:=by
 obtain ⟨h1,o',h2,h3⟩:=mem_ready.1 h;rw [Au] at h2;cases ho:ops[i]? with
 | none=>rw [ho] at h2;cases h2
 | some o =>
  rw [ho,Option.map_some,Option.some.injEq] at h2;refine mem_ready.2 ⟨h1,o,ho,fun e he hb=>h3 e ?_ hb⟩;rw [← h2];split
  ·exact Array.mem_push.2 (.inl he)
  ·exact he
theorem Ai {i fuel:Nat} {listed:Array Bool} (h:i∈Region.ready .any ops listed) (t:Nat) :
  ∃ t',Region.linearise.go .any ops (fuel+1) t' listed []=i::Region.linearise.go .any ops fuel t (listed.setIfInBounds i true) []:=by
 obtain ⟨k,hk,hi⟩:=List.getElem_of_mem h;refine ⟨k+(Region.ready .any ops listed).length*t,?_⟩;simp only [Region.linearise.go]
 change (match (Region.ready .any ops listed)[(k+(Region.ready .any ops listed).length*t)%(Region.ready .any ops listed).length]? with
   | some i=>Region.linearise.go .any ops fuel ((k+(Region.ready .any ops listed).length*t) / (Region.ready .any ops listed).length) (listed.setIfInBounds i true) [i]
   | none=>[].reverse)=_
 have e1:(k+(Region.ready .any ops listed).length*t)%(Region.ready .any ops listed).length=k:=by
  rw [Nat.add_mul_mod_self_left,fQ hk]
 have e2:(k+(Region.ready .any ops listed).length*t) / (Region.ready .any ops listed).length=t:=by
  rw [Nat.add_mul_div_left _ _ (Nat.lt_of_le_of_lt (Nat.zero_le _) hk),fD hk,dP]
 rw [e1,e2,List.getElem?_eq_getElem hk,hi];simp only [];rw [linearise_go_acc,List.reverse_singleton,List.singleton_append]
theorem go_step (fuel t:Nat) (listed:Array Bool) :
  (Region.ready .any ops listed=[]∧Region.linearise.go .any ops (fuel+1) t listed []=[]) ∨
  ∃ i∈Region.ready .any ops listed,∃ t',Region.linearise.go .any ops (fuel+1) t listed []=i::Region.linearise.go .any ops fuel t' (listed.setIfInBounds i true) []:=by
 simp only [Region.linearise.go]
 change (_∧(match (Region.ready .any ops listed)[t%(Region.ready .any ops listed).length]? with
   | some i=>Region.linearise.go .any ops fuel (t / (Region.ready .any ops listed).length) (listed.setIfInBounds i true) [i]
   | none=>[].reverse)=[])∨∃ i∈Region.ready .any ops listed,∃ t',(match (Region.ready .any ops listed)[t%(Region.ready .any ops listed).length]? with
   | some i=>Region.linearise.go .any ops fuel (t / (Region.ready .any ops listed).length) (listed.setIfInBounds i true) [i]
   | none=>[].reverse)=_
 cases hi:(Region.ready .any ops listed)[t%(Region.ready .any ops listed).length]? with
 | none =>
  left
  refine ⟨?_,rfl⟩;cases hr:Region.ready .any ops listed with
  | nil=>rfl
  | cons x xs =>
   rw [hr] at hi;have hlt:t%(x::xs).length<(x::xs).length:=gH _ zi;simp at hi
   simp at hlt
   omega
 | some i =>
  right
  refine ⟨i,List.mem_of_getElem? hi,t / (Region.ready .any ops listed).length,?_⟩;simp only [];rw [linearise_go_acc,List.reverse_singleton,List.singleton_append]
theorem MH {fuel t:Nat} {listed:Array Bool} (h:Region.ready .any ops listed=[]):Region.linearise.go .any ops (fuel+1) t listed []=[]:=by
 rcases go_step (ops:=ops) fuel t listed with ⟨-, h2⟩|⟨i,hi, -⟩
 ·exact h2
 ·rw [h] at hi;cases hi
theorem Bp {x y:Nat}:∀ (fuel t:Nat) (listed:Array Bool),listed.getD x false=true→∃ t',Region.linearise.go .any ops fuel t listed []=Region.linearise.go .any (nG x y ops) fuel t' listed []
 | 0,t,listed,_=>⟨t,rfl⟩
 | fuel+1,t,listed,hx=>by
  rcases go_step (ops:=ops) fuel t listed with ⟨h1,h2⟩|⟨i,hi,t',h⟩
  ·refine ⟨0,?_⟩;rw [h2,MH];cases hr:Region.ready .any (nG x y ops) listed with
   | nil=>rfl
   | cons i l =>
    have:=LB (x:=x) (y:=y) (i:=i) (by rw [hr];exact List.mem_cons_self);rw [h1] at this;cases this
  ·obtain ⟨t2,h2⟩:=Bp fuel t' (listed.setIfInBounds i true) (getD_set_true hx);obtain ⟨t3,h3⟩:=Ai (fuel:=fuel) (vW (y:=y) hi fun _=>hx) t2;exact ⟨t3,by rw [h,h2,h3]⟩
theorem WK {x y:Nat} (hxy:x≠y):∀ (fuel t:Nat) (listed:Array Bool),
  (∃ t',Region.linearise.go .any ops fuel t listed []=Region.linearise.go .any (nG x y ops) fuel t' listed []) ∨
  (∃ t',Region.linearise.go .any ops fuel t listed []=Region.linearise.go .any (nG y x ops) fuel t' listed [])
 | 0,t,listed=>.inl ⟨t,rfl⟩
 | fuel+1,t,listed=>by
  rcases go_step (ops:=ops) fuel t listed with ⟨h1,h2⟩|⟨i,hi,t',h⟩
  ·refine .inl ⟨0,?_⟩;rw [h2,MH];cases hr:Region.ready .any (nG x y ops) listed with
   | nil=>rfl
   | cons i l =>
    have:=LB (x:=x) (y:=y) (i:=i) (by rw [hr];exact List.mem_cons_self);rw [h1] at this;cases this
  ·have hset:∀ j,i=j→(listed.setIfInBounds i true).getD j false=true:=fun j hj=>by
    subst hj;have:=(mem_ready.1 hi).1
    rcases aH i listed.size with h'|h'
    ·simp [h']
    ·simp [bQ h'] at this
   by_cases hix:i=x
   ·obtain ⟨t2,h2⟩:=Bp (ops:=ops) (x:=x) (y:=y) fuel t' _ (hset x hix);obtain ⟨t3,h3⟩:=Ai (fuel:=fuel) (vW (x:=x) (y:=y) hi fun e=>absurd (hix.symm.trans e) hxy) t2;exact .inl ⟨t3,by rw [h,h2,h3]⟩
   ·by_cases hiy:i=y
    ·obtain ⟨t2,h2⟩:=Bp (ops:=ops) (x:=y) (y:=x) fuel t' _ (hset y hiy);obtain ⟨t3,h3⟩:=Ai (fuel:=fuel) (vW (x:=y) (y:=x) hi fun e=>absurd e hix) t2;exact .inr ⟨t3,by rw [h,h2,h3]⟩
    ·rcases WK hxy fuel t' (listed.setIfInBounds i true) with ⟨t2,h2⟩|⟨t2,h2⟩
     ·obtain ⟨t3,h3⟩:=Ai (fuel:=fuel) (vW (x:=x) (y:=y) hi fun e=>absurd e hiy) t2;exact .inl ⟨t3,by rw [h,h2,h3]⟩
     ·obtain ⟨t3,h3⟩:=Ai (fuel:=fuel) (vW (x:=y) (y:=x) hi fun e=>absurd e hix) t2;exact .inr ⟨t3,by rw [h,h2,h3]⟩
structure Reg (P:Program) (ops:Array Oper) (Q:Exit→Act→World→Prop) (a:Act) (w:World):Prop where
 out:∀ t,wpOps P ops Q (Region.linearise .any ops t) a w
theorem ao2 {id:Nat} {a:Act} {w:World} (hm:P.follows .mixedOrders=true) (h:Reg P ops Q a w.drew):(Code.region id ops true).wp P Q a w :=
 wp_region_draw fun t=>by
  simp only [Region.schedule,hm,Bool.true_or,if_true];exact h.out t
theorem YS {a:Act} {w:World} (x y:Nat) (hxy:x≠y) (h1:Reg P (nG x y ops) Q a w) (h2:Reg P (nG y x ops) Q a w):Reg P ops Q a w:=⟨fun t=>by
 unfold Region.linearise
 rcases WK (ops:=ops) hxy ops.size t (Array.replicate ops.size false) with ⟨t',h⟩|⟨t',h⟩
 ·rw [h];have:=h1.out t';unfold Region.linearise at this;rw [Jd] at this;exact yZ x y _ _ _ this
 ·rw [h];have:=h2.out t';unfold Region.linearise at this;rw [Jd] at this;exact yZ y x _ _ _ this⟩
def Bf (l:List Nat) (ops:Array Oper):Bool:=(dB ops.size).all fun i=>match ops[i]? with
 | some o=>o.after.all (fun e=> !Region.binds .any e || (decide (l.idxOf e.on<l.idxOf i)&&decide (e.on<ops.size)))
 | none=>true
theorem aq7 {l:List Nat} (ho:Bf l ops=true):Led ops:=fun listed hsz hr i hi=>by
 have key:∀ n i,l.idxOf i=n→i<ops.size→listed.getD i true=true:=by
  intro n
  induction n using gN with
  | _ n ih =>
   intro i hn hi;cases hl:listed.getD i true with
   | true=>rfl
   | false =>
    exfalso
    have ho':ops[i]? =some ops[i]:=by simp [hi]
    have hmem:i∈Region.ready .any ops listed:=mem_ready.2 ⟨hl,ops[i],ho',fun e he hb=>by
     unfold Bf at ho;have h1:=List.all_eq_true.1 ho i (List.mem_range.2 hi);simp only [ho'] at h1;have h2:=Array.all_eq_true_iff_forall_mem.1 h1 e he;simp only [hb,Bool.not_true,Bool.false_or,aF,decide_eq_true_eq] at h2;have h3:=ih _ zo e.on rfl h2.2;have:e.on<listed.size:=by omega
     simpa [this] using h3⟩
    rw [hr] at hmem;cases hmem
 exact key _ i rfl hi
def PG (ops:Array Oper) (is:List (K × Nat)):Bool :=
 Region.noSelect ops&&Bf (is.map (·.2)) ops&&kC ops is&&decide (is.map (·.2)).Nodup&&decide (is.length≤ops.size)&&(dB ops.size).all (fun i=>(is.map (·.2)).contains i)
end Go.SW
namespace Go.SW
open Go Go.RowKit
variable {P:Program} {ops:Array Oper} {Q:Exit→Act→World→Prop}
inductive St|one (k:K) (i:Nat)|two (i j:Nat)
def orders:List St→List (List (K × Nat))
 | []=>[[]]
 | .one k i::l=>(orders l).map ((k,i):: ·)
 | .two i j::l=>(orders l).map (fun m=>(.ext,i)::(.ext,j)::m)++(orders l).map (fun m=>(.ext,j)::(.ext,i)::m)
variable {o:Oper} {i:Nat} {is:List St} {a:Act} {w:World} {N:Nat} {A:List Nat}
end Go.SW
namespace Go.Fx
open Go Go.RowKit Go.SW Go.Num Go.Mem Go.Proofs
section
variable {P:Program} {n:Nat} {R:Post} {w0:World} {p:Pos} {S:Sl} {L:Mm} {ops:Array Oper} {k:List Kt}
theorem Si {dO:World→World→Prop} {Q:Exit→Act→World→Prop} {a:Act} {w:World} (is:List (K × Nat)) (hZ:Ic.Lax w.heap.size dO) (hc:PG ops is=true) (hal:uj P ops is)
  (hQ:∀ c (a s:Act) w,s.defers=a.defers→Q (.panic c) a w→Q (.panic c) s w)
  (h:Ic.walk dO P ops Q w.heap.size is [] a w):Reg P ops Q a w:=⟨fun t=>by
 unfold PG at hc;simp only [aF,decide_eq_true_eq] at hc;obtain ⟨⟨⟨⟨⟨h1,h2⟩,h3⟩,h4⟩,h5⟩,h6⟩:=hc;unfold Region.linearise;refine wpAny_sound _ _ _ _ _ ?_;refine Ic.EP (dO:=dO) h1 (aq7 h2) hQ w.heap.size hZ ops.size is [] [] [] _ a a w ?_ ?_ h3 h4 zi zi hal ?_ h
 ·rw [sK];exact h5
 ·refine ⟨by simp,fun i hi=>?_,fun j o hj hl=>?_,rfl,rfl,fun t _ _=>rfl,by simp,by simp,by simp,by simp⟩
  ·have hmem:i∈is.map (·.2):=by simpa using List.all_eq_true.1 h6 i (List.mem_range.2 hi)
   simp [hi]
   simpa using hmem
  ·have hj':=(Array.getElem?_eq_some_iff.1 hj).1;simp [hj'] at hl
 ·exact ⟨by simp,by simp,by simp,by simp,aC _⟩⟩
structure GD (P:Program) (n:Nat) (R:Post) (w0:World) (ops:Array Oper) (S:Sl) (L:Mm):Prop where
 out:∀ w,Mem w0 [] L w→∀ a,xK n S a→Reg P ops (lift n R) a w
theorem RX (x y:Nat) (hxy:x≠y) (h1:GD P n R w0 (nG x y ops) S L) (h2:GD P n R w0 (nG y x ops) S L):GD P n R w0 ops S L :=
 ⟨fun w hM a ha=>YS x y hxy (h1.out w hM a ha) (h2.out w hM a ha)⟩
theorem Fv (l:List Nat) (hc:G P n R w0 [] (.vH ops [] (plan P ops l) [] []) S L) (hd:PG ops (plan P ops l)=true:=by kernel_rfl) (hq:(plan P ops l).map (probe P ops)=(plan P ops l).map want:=by kernel_rfl):GD P n R w0 ops S L :=
 ⟨fun w hM a ha=>Si (plan P ops l) (lax (H:=[]) zi) hd (uZ hq) (fun c a s w hs h=>Fu c a s w hs h)
  (hc.out w w.heap.size [] hM ⟨fun _=>hM.GK.size,fun _ j x hx=>.inl (hM.all j x hx).lt,by simp,rfl,by simp⟩ a ha)⟩
theorem Gn.refl (S:Sl):∀ i v,look S i=some v→look S i=some v:=fun _ _ h=>h
theorem Gn.cons {S' S:Sl} {d:Nat} {u:Value} (h:∀ i v,look S' i=some v→look S i=some v):∀ i v,look ((d,u)::S') i=some v→look ((d,u)::S) i=some v:=mY h d u
theorem Gn.skip {S' S:Sl} {d:Nat} {u:Value} (h:∀ i v,look S' i=some v→look S i=some v) (hn:look S' d=none):∀ i v,look S' i=some v→look ((d,u)::S) i=some v:=fun i v hv=>by
 rw [qB];cases hb:Nat.beq i d with
 | true=>rw [Nat.eq_of_beq_eq_true hb,hn] at hv;cases hv
 | false=>simp only [cond_false,hb];exact h i v hv
def aP5 {ι:Type} (A:ι→Sl) (B:ι→Mm) (w0:World) (S0:Sl) (L0:Mm):Post:=fun e S' w'=>e= .normal∧∃ x,(∀ i v,look (A x++S0) i=some v→look S' i=some v)∧Mem w0 [] (L0++B x) w'
theorem aK8 {ι:Type} (m:Nat) (hs:List Nat) (St:Sl) (U:List (Nat × Array Value)) (A:ι→Sl) (B:ι→Mm) {id:Nat} {c:Code} (hq:(tr m hs p).2= .code (.region id ops true) (.seq c::k))
  (h1:GD P n (aP5 A B w0 (St++S) (upd L U)) w0 ops (St++S) (upd L U))
  (h2:∀ x,G P n R w0 [] (.code c k) (A x++(St++S)) (upd L U++B x))
  (hm:P.follows .mixedOrders=true:=by kernel_rfl) (h:Gy P n w0 (tr m hs p).1 S L St (upd L U):=by intro _;kernel_rfl):G P n R w0 [] p S L:=by
 refine go hs St _ h (by rw [hq];rfl) ?_;rw [hq];refine ⟨fun w N H hM _ a ha=>?_⟩;refine wp_mono (ao2 hm (h1.out w.drew (hM.later (Below.drew (Below.refl _ _))) a ha)) fun e a' w' hq'=>?_;cases e with
 | normal =>
  obtain ⟨S',hs', -, x,hl,hM'⟩:=hq';exact ⟨S',hs',fun a2 ha2=>(h2 x).out w' 0 [] hM' trivial a2 (ha2.of hl)⟩
 | panic ch=>obtain ⟨-, S',he, -⟩:=hq';cases he
 | exit id=>obtain ⟨S', -, he, -⟩:=hq';cases he
 | goto id=>obtain ⟨S', -, he, -⟩:=hq';cases he
 | ret=>obtain ⟨S', -, he, -⟩:=hq';cases he
 | outgrown=>obtain ⟨S', -, he, -⟩:=hq';cases he
theorem uT {ι:Type} (hs:List Nat) (U:List (Nat × Array Value)) (x:ι) {A:ι→Sl} {B:ι→Mm} {S0:Sl} {L0:Mm} (hS:∀ i v,look (A x++S0) i=some v→look S i=some v)
  (h:Gy P n w0 (tr 4000 hs p).1 S L [] (upd L U):=by intro _;kernel_rfl) (hL:upd L U=L0++B x:=by kernel_rfl) (hq:(tr 4000 hs p).2= .nx .normal []:=by kernel_rfl):G P n (aP5 A B w0 S0 L0) w0 [] p S L:=by
 refine WL hs [] _ h ?_;rw [hq,hL];exact ⟨fun w N H hM _=>⟨rfl,x,fun i v hv=>h.sub i v (hS i v hv),hM⟩⟩
end
end Go.Fx
namespace Go.Proofs
open Go Go.RowKit Go.SW Go.Num Go.Mem
end Go.Proofs
namespace Go.Proofs.YtbngfhgoeoncmaaGreatDoor
open Go Go.ChangeShapes Go.WideShapes Go.RowKit Go.Proofs
theorem jR {P:Program} {w:World} {r:Reach} {b:Nat} {u:TypeId} {k:IntKind} {v:Value} (hu:P.underlying u=some (.int k)) (h:Cell.okWide P w r b u v):∃ n,v= .int k n∧k.has n:=by
 unfold Cell.okWide at h;simp only [hu] at h;unfold Cell.ok at h;simp only [hu] at h;cases v<;>simp at h
 obtain ⟨rfl,h⟩:=h;exact ⟨_,rfl,h⟩
theorem af2 {α:Type} {l:List α} (h:l.length=7):∃ x0 x1 x2 x3 x4 x5 x6,l=[x0,x1,x2,x3,x4,x5,x6]:=by
 match l,h with
 | [x0,x1,x2,x3,x4,x5,x6],_=>exact ⟨x0,x1,x2,x3,x4,x5,x6,rfl⟩
theorem IY {P:Program} {w:World} {r:Reach} {b:Nat} {T:TypeId} {d:TypeDesc} {ts:List TypeId} {v:Value} (hu:P.underlying T=some d) (hd:(match d with| .struct _| .array _ _=>true| _=>false)=true)
  {n:Nat} (hc:P.cellTypes P.depth T=some ts) (hn:P.cellsOf T=n) (hl:ts.length=n) (h:Value.okWide P w r b T v):∃ l:List Value,v= aB ⟨l⟩∧l.length=n∧∀ (i:Nat) x u,l[i]? =some x→ts[i]? =some u→Cell.okWide P w r b u x:=by
 have h':∃ cs,v= aB cs∧cs.size=P.cellsOf T∧Row.okWide P w r b T cs:=by
  unfold Value.okWide at h;rw [hu] at h;cases d<;>simp at hd<;>exact h
 obtain ⟨⟨l⟩,rfl,hs,ts',ht, -, hx⟩:=h';rw [hc] at ht;cases ht
 refine ⟨l,rfl,by rw [← hn];exact hs,fun i x u hi hui=>?_⟩;obtain ⟨u',h1,h2⟩:=hx i x (by simpa using hi);have hlt:i<ts.length:=(List.getElem?_eq_some_iff.1 hui).1;rw [fQ hlt,hui] at h1;cases h1
 exact h2
theorem pQ {n:Int} (h:IntKind.u8.has n):0≤n∧n≤255:=by
 simpa [IntKind.has,IntKind.min,IntKind.max,IntKind.signed,IntKind.bits] using h
theorem Q7 {n:Int} (h:IntKind.u16.has n):0≤n∧n≤65535:=by
 simpa [IntKind.has,IntKind.min,IntKind.max,IntKind.signed,IntKind.bits] using h
theorem Mk:laidOutB Tryz.prog=true:=by kernel_rfl
end Go.Proofs.YtbngfhgoeoncmaaGreatDoor
