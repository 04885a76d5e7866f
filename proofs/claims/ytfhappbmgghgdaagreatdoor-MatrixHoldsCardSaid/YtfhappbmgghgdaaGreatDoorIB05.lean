/- Lemmas for the proof. No condition. -/
import Derived.Test.YtfhappbmgghgdaaGreatDoorIB01
import Derived.Test.YtfhappbmgghgdaaGreatDoorIB02
import Derived.Test.YtfhappbmgghgdaaGreatDoorIB04
set_option linter.unusedVariables false
set_option linter.unusedSimpArgs false
set_option maxRecDepth 100000
set_option maxHeartbeats 16000000
namespace Go.Proofs.fM
open Go Go.RowKit Go.SW Go.Num Go.Mem Go.Proofs Go.dF
def YL (a:Int × Int) (k:Nat):Int:=if k / 2=0 then a.1 else a.2
def YK (b:Int × Int) (k:Nat):Int:=if k%2=0 then b.1 else b.2
def uq (a b:Int × Int) (k:Nat):Int × Bool:=Az (YL a k) (YK b k) 1000000000000 false
def jG (a b:Int × Int) (k:Nat):Int × Bool:=Az (YL a k) (YK b k) 1000000000000 true
def ag3 (a b:Int × Int):Bool:=(List.range 4).all fun k=>(uq a b k).2&&(jG a b k).2
def Co (a b:Int × Int):(Int × Int) × Int:=if ag3 a b then kC ([(uq a b 0).1,(uq a b 1).1,(uq a b 2).1,(uq a b 3).1].foldl min (uq a b 0).1) ([(jG a b 0).1,(jG a b 1).1,(jG a b 2).1,(jG a b 3).1].foldl max (jG a b 0).1) else ((0,0),6)
def vM (a b:Int × Int):(Int × Int) × Int:=if okB [a,b] then Co a b else ((0,0),30)
def Ox (f:Nat→Int × Bool) (k q:Nat):Int:=if q<k then (f q).1 else 0
def wC (f:Nat→Int × Bool) (k:Nat):Array Value:=#[.int .i64 (Ox f k 0),.int .i64 (Ox f k 1),.int .i64 (Ox f k 2),.int .i64 (Ox f k 3)]
theorem ah.aC4 (w:World) (o o2 o3 o4:Obj) (cs:Array Value) (T:TypeId):ah (((((w.alloc o).alloc o2).alloc o3).alloc o4).alloc (.cells cs T (0,0))) (w.heap.size+1+1+1+1) cs T:=ah.qz zi
theorem aH7 (w:World) (c0:Array Value) (T0:TypeId) (c1:Array Value) (T1:TypeId) (c2:Array Value) (T2:TypeId) (c3:Array Value) (T3:TypeId) (c4:Array Value) (T4:TypeId):∃ y,((((w.alloc (.cells c0 T0 (0,0))).alloc (.cells c1 T1 (0,0))).alloc (.cells c2 T2 (0,0))).alloc (.cells c3 T3 (0,0))).alloc (.cells c4 T4 (0,0))=y∧Below w.heap.size w y∧Hid (ah y (w.heap.size) c0 T0)∧Hid (ah y (w.heap.size+1) c1 T1)∧Hid (ah y (w.heap.size+1+1) c2 T2)∧Hid (ah y (w.heap.size+1+1+1) c3 T3)∧Hid (ah y (w.heap.size+1+1+1+1) c4 T4):=⟨_,rfl,aJ (aJ (aJ (aJ (aJ (Below.refl _ _) _) _) _) _) _,zh (ah.alloc (ah.alloc (ah.alloc (ah.alloc (ah.new _ _ _) _) _) _) _),zh (ah.alloc (ah.alloc (ah.alloc (ah.oV _ _ _ _) _) _) _),zh (ah.alloc (ah.alloc (ah.at2 _ _ _ _ _) _) _),zh (ah.alloc (ah.at3 _ _ _ _ _ _) _),zh (ah.aC4 _ _ _ _ _ _ _)⟩
structure Il (w0:World) (a b:Int × Int) (wr:World) (k:Nat):Prop where
 ba:ah wr w0.heap.size #[.int .i64 a.1,.int .i64 a.2] 69
 bb:ah wr (w0.heap.size+1) #[.int .i64 b.1,.int .i64 b.2] 69
 br:ah wr (w0.heap.size+1+1) #[.int .i64 0,.int .i64 0] 69
 bl:ah wr (w0.heap.size+1+1+1) (wC (uq a b) k) 261
 bh:ah wr (w0.heap.size+1+1+1+1) (wC (jG a b) k) 261
 bw:Below w0.heap.size w0 wr
 ok:∀ q,q<k→(uq a b q).2=true∧(jG a b q).2=true
theorem Il.later {w0 wr w':World} {a b:Int × Int} {k:Nat} (h:Il w0 a b wr k) (hb:Below wr.heap.size wr w'):Il w0 a b w' k :=
 ⟨h.ba.later hb,h.bb.later hb,h.br.later hb,h.bl.later hb,h.bh.later hb,Bt h.bw hb,h.ok⟩
theorem Ie (f:Nat→Int × Bool) {k:Nat} (hk:k<4):(wC f k).setIfInBounds k (.int .i64 (f k).1)=wC f (k+1):=by
 have:k=0∨k=1∨k=2∨k=3:=by omega
 rcases this with rfl|rfl|rfl|rfl<;>simp [wC,Ox]
theorem Il.step {w0 wr:World} {a b:Int × Int} {k:Nat} (h:Il w0 a b wr k) (hk:k<4) (h1:(uq a b k).2=true) (h2:(jG a b k).2=true) :
  Il w0 a b ((wr.setCell ⟨w0.heap.size+1+1+1,k,none⟩ (.int .i64 (uq a b k).1)).setCell ⟨w0.heap.size+1+1+1+1,k,none⟩ (.int .i64 (jG a b k).1)) (k+1) where
 ba:=ah.setOther (ah.setOther h.ba _ (by first|(simp;done)|(simp;omega))) _ (by first|(simp;done)|(simp;omega))
 bb:=ah.setOther (ah.setOther h.bb _ (by first|(simp;done)|(simp;omega))) _ (by first|(simp;done)|(simp;omega))
 br:=ah.setOther (ah.setOther h.br _ zi) _ (by first|(simp;done)|(simp;omega))
 bl:=by
  have:=ah.setOther (h.bl.set k (.int .i64 (uq a b k).1)) (a:=⟨w0.heap.size+1+1+1+1,k,none⟩) (.int .i64 (jG a b k).1) zi
  rwa [Ie _ hk] at this
 bh:=by
  have:=(ah.setOther h.bh (a:=⟨w0.heap.size+1+1+1,k,none⟩) (.int .i64 (uq a b k).1) zi).set k (.int .i64 (jG a b k).1)
  rwa [Ie _ hk] at this
 bw:=(h.bw.setCell (p:=⟨w0.heap.size+1+1+1,k,none⟩) (by simp;omega) _).setCell (p:=⟨w0.heap.size+1+1+1+1,k,none⟩) (by simp;omega) _
 ok:=fun q hq=>by
  rcases Nat.lt_or_ge q k with h'|h'
  ·exact h.ok q h'
  ·obtain rfl:q=k:=by omega
   exact ⟨h1,h2⟩
theorem LG (f:Nat→Int × Bool) (j:Nat) (h:j<[(f 0).1,(f 1).1,(f 2).1,(f 3).1].length):(wC f 4)[j]? =some (.int .i64 [(f 0).1,(f 1).1,(f 2).1,(f 3).1][j]):=by
 have:j=0∨j=1∨j=2∨j=3:=by have:j<4:=h;omega
 rcases this with rfl|rfl|rfl|rfl<;>simp [wC,Ox]
theorem ab0 {a b:Int × Int} {k:Nat} (hk:k<4) (h:(uq a b k).2=false∨(jG a b k).2=false):Co a b=((0,0),6):=by
 unfold Co
 rw [if_neg]
 intro hf
 unfold ag3 at hf
 have:=List.all_eq_true.1 hf k (by simp [hk])
 rcases h with h|h<;>simp [h] at this
theorem Nn (x y z t:Int) (hx:x.natAbs≤1000000000000000000) (hy:y.natAbs≤1000000000000000000) (hz:z.natAbs≤1000000000000000000) (ht:t.natAbs≤1000000000000000000) (w:World) :
  Calls Tryz.prog 144 #[.agg #[.int .i64 x,.int .i64 y],.agg #[.int .i64 z,.int .i64 t],.func (.func 145) #[] #[]] w (fun e w'=>e= .returned (iw (Co (x,y) (z,t)))∧Below w.heap.size w w'):=by
 have hpx:∀ k,(YL (x,y) k).natAbs≤1000000000000000000:=fun k=>by unfold YL;split<;>assumption
 have hpy:∀ k,(YK (z,t) k).natAbs≤1000000000000000000:=fun k=>by unfold YK;split<;>assumption
 have HL:Hid (∀ k W,Calls Tryz.prog 145 #[.int .i64 (YL (x,y) k),.int .i64 (YK (z,t) k),.bool false] W (fun e w'=>e= .returned (.tuple #[.int .i64 (uq (x,y) (z,t) k).1,.bool (uq (x,y) (z,t) k).2])∧Below W.heap.size W w')):=zh (fun k W=>Mr (YL (x,y) k) (YK (z,t) k) false (hpx k) (hpy k) W)
 have HH:Hid (∀ k W,Calls Tryz.prog 145 #[.int .i64 (YL (x,y) k),.int .i64 (YK (z,t) k),.bool true] W (fun e w'=>e= .returned (.tuple #[.int .i64 (jG (x,y) (z,t) k).1,.bool (jG (x,y) (z,t) k).2])∧Below W.heap.size W w')):=zh (fun k W=>Mr (YL (x,y) k) (YK (z,t) k) true (hpx k) (hpy k) W)
 have HN:=zh (fun k (hk:k<4) h=>ab0 (a:=(x,y)) (b:=(z,t)) (k:=k) hk h)
 have HY:Hid (Il w (x,y) (z,t) w 4→True):=zh fun _=>trivial
 obtain ⟨⟨⟨s1,s2⟩,s3⟩,es⟩:∃ s,Co (x,y) (z,t)=s:=⟨_,rfl⟩
 rw [es]
 have HS:=zh es
 unfold iw
 clear hx hy hz ht hpx hpy es HY
 go_enter Tryz.func144,Tryz.ntmps144
 go_wp2_with fail
 go_step3
 go_wp2_with fail
 go_step3
 go_wp2_with fail
 obtain ⟨w0,EW,hb,X3,X4,X6,X8,X9⟩:=aH7 w #[.int .i64 x,.int .i64 y] 69 #[.int .i64 z,.int .i64 t] 69 #[.int .i64 0,.int .i64 0] 69 #[.int .i64 0,.int .i64 0,.int .i64 0,.int .i64 0] 261 #[.int .i64 0,.int .i64 0,.int .i64 0,.int .i64 0] 261
 rw [EW]
 clear EW
 have Zo:Hid (Il w (x,y) (z,t) w0 0):=zh ⟨X3.out,X4.out,X6.out,X8.out,X9.out,hb,fun q h=>absurd h zo⟩
 clear X3 X4 X6 X8 X9 hb
 go_loopw [10,24] (fun fv iv wr=>∃ i:Int,fv= .bool true∧iv= .int .i64 i∧Hid ((i=0∧Il w (x,y) (z,t) wr 0)∨(i=1∧Il w (x,y) (z,t) wr 2)∨(i=2∧Il w (x,y) (z,t) wr 4))) (fun _ iv _=>2 - (intOf iv).toNat)
 case atStart=>exact ⟨0,rfl,rfl,zh (.inl ⟨rfl,Zo.out⟩)⟩
 case round =>
  clear Zo
  obtain ⟨i,rfl,rfl,HI⟩:=hrel
  rcases HI.out with ⟨rfl,hS⟩|⟨rfl,hS⟩|⟨rfl,hS⟩
  ·clear HI
   have hix:∀ W,(Instr.index 32 (.agg #[.int .i64 x,.int .i64 y]) (.int .i64 0)).run Tryz.prog W= .ok (.int .i64 x) W:=fun W=>by kernel_rfl
   obtain ⟨c4,l4⟩:=(zh hS.bb).cl
   have Zo:=zh hS
   clear hS
   go_wp2_with fail
   clear hix c4 l4
   go_loopw [10,33] (fun fv jv wr=>∃ j:Int,fv= .bool true∧jv= .int .i64 j∧Hid ((j=0∧Il w (x,y) (z,t) wr 0)∨(j=1∧Il w (x,y) (z,t) wr 1)∨(j=2∧Il w (x,y) (z,t) wr 2))) (fun _ jv _=>2 - (intOf jv).toNat)
   case atStart=>exact ⟨0,rfl,rfl,zh (.inl ⟨rfl,Zo.out⟩)⟩
   case round =>
    clear Zo
    obtain ⟨j,rfl,rfl,HJ⟩:=hrel
    rcases HJ.out with ⟨rfl,hS⟩|⟨rfl,hS⟩|⟨rfl,hS⟩
    ·clear HJ
     obtain ⟨⟨l1,l2⟩,el⟩:∃ v,uq (x,y) (z,t) 0=v:=⟨_,rfl⟩
     obtain ⟨⟨h1,h2⟩,eh⟩:∃ v,jG (x,y) (z,t) 0=v:=⟨_,rfl⟩
     have Kq:=zh (HL.out 0)
     have Kv:=zh (HH.out 0)
     rw [el] at Kq
     rw [eh] at Kv
     have EL:=zh (And.intro el eh)
     have BU:=zh hS
     clear el eh hS
     have Jz:∀ W,(Instr.index 32 (.agg #[.int .i64 z,.int .i64 t]) (.int .i64 0)).run Tryz.prog W= .ok (.int .i64 z) W:=fun W=>by kernel_rfl
     go_wp2_with fail
     refine (Kq.out _).mono ?_
     rintro e w1 ⟨rfl,hb⟩
     have Ip:=zh (BU.out.later hb)
     clear hb Jz Kq BU
     go_wp2_with fail
     refine (Kv.out _).mono ?_
     rintro e w2 ⟨rfl,hb⟩
     have jW:=zh (Ip.out.later hb)
     clear hb Kv Ip
     cases l2
     ·obtain ⟨rfl,rfl,rfl⟩:s1=0∧s2=0∧s3=6:=by have h:=HS.out;rw [HN.out 0 zo (by rw [EL.out.1];exact .inl rfl)] at h;cases h;exact ⟨rfl,rfl,rfl⟩
      obtain ⟨c6,l6,f6⟩:=(zh jW.out.br).clf
      go_wp2_with fail
      rw [Exit.noGoto_ret]
      exact bodyPost_ret (v:=.tuple #[.agg #[.int .i64 0,.int .i64 0],.int .i64 6]) (by have h6:=((jW.out.br.set 0 (.int .i64 0)).set 1 (.int .i64 0)).cell;have Gw:=h6 0;have Gv:=h6 1;simp [results,Tryz.results144,go_sem,Gw,Gv]) rfl ⟨rfl,(jW.out.bw.setCell (p:=⟨w.heap.size+1+1,0,none⟩) (by simp;omega) _).setCell (p:=⟨w.heap.size+1+1,1,none⟩) (by simp;omega) _⟩
     ·cases h2
      ·obtain ⟨rfl,rfl,rfl⟩:s1=0∧s2=0∧s3=6:=by have h:=HS.out;rw [HN.out 0 zo (by rw [EL.out.2];exact .inr rfl)] at h;cases h;exact ⟨rfl,rfl,rfl⟩
       obtain ⟨c6,l6,f6⟩:=(zh jW.out.br).clf
       go_wp2_with fail
       rw [Exit.noGoto_ret]
       exact bodyPost_ret (v:=.tuple #[.agg #[.int .i64 0,.int .i64 0],.int .i64 6]) (by have h6:=((jW.out.br.set 0 (.int .i64 0)).set 1 (.int .i64 0)).cell;have Gw:=h6 0;have Gv:=h6 1;simp [results,Tryz.results144,go_sem,Gw,Gv]) rfl ⟨rfl,(jW.out.bw.setCell (p:=⟨w.heap.size+1+1,0,none⟩) (by simp;omega) _).setCell (p:=⟨w.heap.size+1+1,1,none⟩) (by simp;omega) _⟩
      ·obtain ⟨c8,l8,f8⟩:=(zh jW.out.bl).clf
       obtain ⟨c9,l9,f9⟩:=(zh jW.out.bh).clf
       unfold wC at c8 c9
       have Kn:=zh (jW.out.step (k:=0) zo (by rw [EL.out.1]) (by rw [EL.out.2]))
       rw [EL.out.1,EL.out.2] at Kn
       clear jW
       go_wp2_with fail
       go_roundw
       case rel=>exact ⟨1,rfl,rfl,zh (.inr<| .inl ⟨rfl,Kn.out⟩)⟩
       case measure=>simp [intOf]
    ·clear HJ
     obtain ⟨⟨l1,l2⟩,el⟩:∃ v,uq (x,y) (z,t) 1=v:=⟨_,rfl⟩
     obtain ⟨⟨h1,h2⟩,eh⟩:∃ v,jG (x,y) (z,t) 1=v:=⟨_,rfl⟩
     have Kq:=zh (HL.out 1)
     have Kv:=zh (HH.out 1)
     rw [el] at Kq
     rw [eh] at Kv
     have EL:=zh (And.intro el eh)
     have BU:=zh hS
     clear el eh hS
     have Jz:∀ W,(Instr.index 32 (.agg #[.int .i64 z,.int .i64 t]) (.int .i64 1)).run Tryz.prog W= .ok (.int .i64 t) W:=fun W=>by kernel_rfl
     go_wp2_with fail
     refine (Kq.out _).mono ?_
     rintro e w1 ⟨rfl,hb⟩
     have Ip:=zh (BU.out.later hb)
     clear hb Jz Kq BU
     go_wp2_with fail
     refine (Kv.out _).mono ?_
     rintro e w2 ⟨rfl,hb⟩
     have jW:=zh (Ip.out.later hb)
     clear hb Kv Ip
     cases l2
     ·obtain ⟨rfl,rfl,rfl⟩:s1=0∧s2=0∧s3=6:=by have h:=HS.out;rw [HN.out 1 zo (by rw [EL.out.1];exact .inl rfl)] at h;cases h;exact ⟨rfl,rfl,rfl⟩
      obtain ⟨c6,l6,f6⟩:=(zh jW.out.br).clf
      go_wp2_with fail
      rw [Exit.noGoto_ret]
      exact bodyPost_ret (v:=.tuple #[.agg #[.int .i64 0,.int .i64 0],.int .i64 6]) (by have h6:=((jW.out.br.set 0 (.int .i64 0)).set 1 (.int .i64 0)).cell;have Gw:=h6 0;have Gv:=h6 1;simp [results,Tryz.results144,go_sem,Gw,Gv]) rfl ⟨rfl,(jW.out.bw.setCell (p:=⟨w.heap.size+1+1,0,none⟩) (by simp;omega) _).setCell (p:=⟨w.heap.size+1+1,1,none⟩) (by simp;omega) _⟩
     ·cases h2
      ·obtain ⟨rfl,rfl,rfl⟩:s1=0∧s2=0∧s3=6:=by have h:=HS.out;rw [HN.out 1 zo (by rw [EL.out.2];exact .inr rfl)] at h;cases h;exact ⟨rfl,rfl,rfl⟩
       obtain ⟨c6,l6,f6⟩:=(zh jW.out.br).clf
       go_wp2_with fail
       rw [Exit.noGoto_ret]
       exact bodyPost_ret (v:=.tuple #[.agg #[.int .i64 0,.int .i64 0],.int .i64 6]) (by have h6:=((jW.out.br.set 0 (.int .i64 0)).set 1 (.int .i64 0)).cell;have Gw:=h6 0;have Gv:=h6 1;simp [results,Tryz.results144,go_sem,Gw,Gv]) rfl ⟨rfl,(jW.out.bw.setCell (p:=⟨w.heap.size+1+1,0,none⟩) (by simp;omega) _).setCell (p:=⟨w.heap.size+1+1,1,none⟩) (by simp;omega) _⟩
      ·obtain ⟨c8,l8,f8⟩:=(zh jW.out.bl).clf
       obtain ⟨c9,l9,f9⟩:=(zh jW.out.bh).clf
       unfold wC at c8 c9
       have Kn:=zh (jW.out.step (k:=1) zo (by rw [EL.out.1]) (by rw [EL.out.2]))
       rw [EL.out.1,EL.out.2] at Kn
       clear jW
       go_wp2_with fail
       go_roundw
       case rel=>exact ⟨2,rfl,rfl,zh (.inr<| .inr ⟨rfl,Kn.out⟩)⟩
       case measure=>simp [intOf]
    ·have Kn:=zh hS
     clear hS HJ
     go_wp2_with fail
     go_roundw
     case rel=>exact ⟨1,rfl,rfl,zh (.inr<| .inl ⟨rfl,Kn.out⟩)⟩
     case measure=>simp [intOf]
  ·clear HI
   have hix:∀ W,(Instr.index 32 (.agg #[.int .i64 x,.int .i64 y]) (.int .i64 1)).run Tryz.prog W= .ok (.int .i64 y) W:=fun W=>by kernel_rfl
   obtain ⟨c4,l4⟩:=(zh hS.bb).cl
   have Zo:=zh hS
   clear hS
   go_wp2_with fail
   clear hix c4 l4
   go_loopw [10,33] (fun fv jv wr=>∃ j:Int,fv= .bool true∧jv= .int .i64 j∧Hid ((j=0∧Il w (x,y) (z,t) wr 2)∨(j=1∧Il w (x,y) (z,t) wr 3)∨(j=2∧Il w (x,y) (z,t) wr 4))) (fun _ jv _=>2 - (intOf jv).toNat)
   case atStart=>exact ⟨0,rfl,rfl,zh (.inl ⟨rfl,Zo.out⟩)⟩
   case round =>
    clear Zo
    obtain ⟨j,rfl,rfl,HJ⟩:=hrel
    rcases HJ.out with ⟨rfl,hS⟩|⟨rfl,hS⟩|⟨rfl,hS⟩
    ·clear HJ
     obtain ⟨⟨l1,l2⟩,el⟩:∃ v,uq (x,y) (z,t) 2=v:=⟨_,rfl⟩
     obtain ⟨⟨h1,h2⟩,eh⟩:∃ v,jG (x,y) (z,t) 2=v:=⟨_,rfl⟩
     have Kq:=zh (HL.out 2)
     have Kv:=zh (HH.out 2)
     rw [el] at Kq
     rw [eh] at Kv
     have EL:=zh (And.intro el eh)
     have BU:=zh hS
     clear el eh hS
     have Jz:∀ W,(Instr.index 32 (.agg #[.int .i64 z,.int .i64 t]) (.int .i64 0)).run Tryz.prog W= .ok (.int .i64 z) W:=fun W=>by kernel_rfl
     go_wp2_with fail
     refine (Kq.out _).mono ?_
     rintro e w1 ⟨rfl,hb⟩
     have Ip:=zh (BU.out.later hb)
     clear hb Jz Kq BU
     go_wp2_with fail
     refine (Kv.out _).mono ?_
     rintro e w2 ⟨rfl,hb⟩
     have jW:=zh (Ip.out.later hb)
     clear hb Kv Ip
     cases l2
     ·obtain ⟨rfl,rfl,rfl⟩:s1=0∧s2=0∧s3=6:=by have h:=HS.out;rw [HN.out 2 zo (by rw [EL.out.1];exact .inl rfl)] at h;cases h;exact ⟨rfl,rfl,rfl⟩
      obtain ⟨c6,l6,f6⟩:=(zh jW.out.br).clf
      go_wp2_with fail
      rw [Exit.noGoto_ret]
      exact bodyPost_ret (v:=.tuple #[.agg #[.int .i64 0,.int .i64 0],.int .i64 6]) (by have h6:=((jW.out.br.set 0 (.int .i64 0)).set 1 (.int .i64 0)).cell;have Gw:=h6 0;have Gv:=h6 1;simp [results,Tryz.results144,go_sem,Gw,Gv]) rfl ⟨rfl,(jW.out.bw.setCell (p:=⟨w.heap.size+1+1,0,none⟩) (by simp;omega) _).setCell (p:=⟨w.heap.size+1+1,1,none⟩) (by simp;omega) _⟩
     ·cases h2
      ·obtain ⟨rfl,rfl,rfl⟩:s1=0∧s2=0∧s3=6:=by have h:=HS.out;rw [HN.out 2 zo (by rw [EL.out.2];exact .inr rfl)] at h;cases h;exact ⟨rfl,rfl,rfl⟩
       obtain ⟨c6,l6,f6⟩:=(zh jW.out.br).clf
       go_wp2_with fail
       rw [Exit.noGoto_ret]
       exact bodyPost_ret (v:=.tuple #[.agg #[.int .i64 0,.int .i64 0],.int .i64 6]) (by have h6:=((jW.out.br.set 0 (.int .i64 0)).set 1 (.int .i64 0)).cell;have Gw:=h6 0;have Gv:=h6 1;simp [results,Tryz.results144,go_sem,Gw,Gv]) rfl ⟨rfl,(jW.out.bw.setCell (p:=⟨w.heap.size+1+1,0,none⟩) (by simp;omega) _).setCell (p:=⟨w.heap.size+1+1,1,none⟩) (by simp;omega) _⟩
      ·obtain ⟨c8,l8,f8⟩:=(zh jW.out.bl).clf
       obtain ⟨c9,l9,f9⟩:=(zh jW.out.bh).clf
       unfold wC at c8 c9
       have Kn:=zh (jW.out.step (k:=2) zo (by rw [EL.out.1]) (by rw [EL.out.2]))
       rw [EL.out.1,EL.out.2] at Kn
       clear jW
       go_wp2_with fail
       go_roundw
       case rel=>exact ⟨1,rfl,rfl,zh (.inr<| .inl ⟨rfl,Kn.out⟩)⟩
       case measure=>simp [intOf]
    ·clear HJ
     obtain ⟨⟨l1,l2⟩,el⟩:∃ v,uq (x,y) (z,t) 3=v:=⟨_,rfl⟩
     obtain ⟨⟨h1,h2⟩,eh⟩:∃ v,jG (x,y) (z,t) 3=v:=⟨_,rfl⟩
     have Kq:=zh (HL.out 3)
     have Kv:=zh (HH.out 3)
     rw [el] at Kq
     rw [eh] at Kv
     have EL:=zh (And.intro el eh)
     have BU:=zh hS
     clear el eh hS
     have Jz:∀ W,(Instr.index 32 (.agg #[.int .i64 z,.int .i64 t]) (.int .i64 1)).run Tryz.prog W= .ok (.int .i64 t) W:=fun W=>by kernel_rfl
     go_wp2_with fail
     refine (Kq.out _).mono ?_
     rintro e w1 ⟨rfl,hb⟩
     have Ip:=zh (BU.out.later hb)
     clear hb Jz Kq BU
     go_wp2_with fail
     refine (Kv.out _).mono ?_
     rintro e w2 ⟨rfl,hb⟩
     have jW:=zh (Ip.out.later hb)
     clear hb Kv Ip
     cases l2
     ·obtain ⟨rfl,rfl,rfl⟩:s1=0∧s2=0∧s3=6:=by have h:=HS.out;rw [HN.out 3 zo (by rw [EL.out.1];exact .inl rfl)] at h;cases h;exact ⟨rfl,rfl,rfl⟩
      obtain ⟨c6,l6,f6⟩:=(zh jW.out.br).clf
      go_wp2_with fail
      rw [Exit.noGoto_ret]
      exact bodyPost_ret (v:=.tuple #[.agg #[.int .i64 0,.int .i64 0],.int .i64 6]) (by have h6:=((jW.out.br.set 0 (.int .i64 0)).set 1 (.int .i64 0)).cell;have Gw:=h6 0;have Gv:=h6 1;simp [results,Tryz.results144,go_sem,Gw,Gv]) rfl ⟨rfl,(jW.out.bw.setCell (p:=⟨w.heap.size+1+1,0,none⟩) (by simp;omega) _).setCell (p:=⟨w.heap.size+1+1,1,none⟩) (by simp;omega) _⟩
     ·cases h2
      ·obtain ⟨rfl,rfl,rfl⟩:s1=0∧s2=0∧s3=6:=by have h:=HS.out;rw [HN.out 3 zo (by rw [EL.out.2];exact .inr rfl)] at h;cases h;exact ⟨rfl,rfl,rfl⟩
       obtain ⟨c6,l6,f6⟩:=(zh jW.out.br).clf
       go_wp2_with fail
       rw [Exit.noGoto_ret]
       exact bodyPost_ret (v:=.tuple #[.agg #[.int .i64 0,.int .i64 0],.int .i64 6]) (by have h6:=((jW.out.br.set 0 (.int .i64 0)).set 1 (.int .i64 0)).cell;have Gw:=h6 0;have Gv:=h6 1;simp [results,Tryz.results144,go_sem,Gw,Gv]) rfl ⟨rfl,(jW.out.bw.setCell (p:=⟨w.heap.size+1+1,0,none⟩) (by simp;omega) _).setCell (p:=⟨w.heap.size+1+1,1,none⟩) (by simp;omega) _⟩
      ·obtain ⟨c8,l8,f8⟩:=(zh jW.out.bl).clf
       obtain ⟨c9,l9,f9⟩:=(zh jW.out.bh).clf
       unfold wC at c8 c9
       have Kn:=zh (jW.out.step (k:=3) zo (by rw [EL.out.1]) (by rw [EL.out.2]))
       rw [EL.out.1,EL.out.2] at Kn
       clear jW
       go_wp2_with fail
       go_roundw
       case rel=>exact ⟨2,rfl,rfl,zh (.inr<| .inr ⟨rfl,Kn.out⟩)⟩
       case measure=>simp [intOf]
    ·have Kn:=zh hS
     clear hS HJ
     go_wp2_with fail
     go_roundw
     case rel=>exact ⟨2,rfl,rfl,zh (.inr<| .inr ⟨rfl,Kn.out⟩)⟩
     case measure=>simp [intOf]
  ·clear HI
   have HP:=zh hS
   clear hS
   have HMn:=zh (fun W h=>Sv (w.heap.size+1+1+1) 4 [(uq (x,y) (z,t) 0).1,(uq (x,y) (z,t) 1).1,(uq (x,y) (z,t) 2).1,(uq (x,y) (z,t) 3).1] _ rfl (wC (uq (x,y) (z,t)) 4) 261 W h (LG _) zi)
   have HMx:=zh (fun W h=>Gz (w.heap.size+1+1+1+1) 4 [(jG (x,y) (z,t) 0).1,(jG (x,y) (z,t) 1).1,(jG (x,y) (z,t) 2).1,(jG (x,y) (z,t) 3).1] _ rfl (wC (jG (x,y) (z,t)) 4) 261 W h (LG _) zi)
   have HMd:=zh (fun lo hi W=>jO lo hi W)
   obtain ⟨mn,emn⟩:∃ v,[(uq (x,y) (z,t) 0).1,(uq (x,y) (z,t) 1).1,(uq (x,y) (z,t) 2).1,(uq (x,y) (z,t) 3).1].foldl min (uq (x,y) (z,t) 0).1=v:=⟨_,rfl⟩
   obtain ⟨mx,emx⟩:∃ v,[(jG (x,y) (z,t) 0).1,(jG (x,y) (z,t) 1).1,(jG (x,y) (z,t) 2).1,(jG (x,y) (z,t) 3).1].foldl max (jG (x,y) (z,t) 0).1=v:=⟨_,rfl⟩
   have hsp:kC mn mx=((s1,s2),s3):=by
    rw [← HS.out,← emn,← emx]
    unfold Co
    rw [if_pos]
    unfold ag3
    rw [List.all_eq_true]
    intro q hq
    have hq4:q<4:=by simpa using hq
    have:=HP.out.ok q hq4
    simp [this.1,this.2]
   rw [emn] at HMn
   rw [emx] at HMx
   replace HMd:=zh (fun W=>HMd.out mn mx W)
   rw [hsp] at HMd
   unfold iw at HMd
   clear emn emx hsp HL HH HN HS
   go_wp2_with fail
   refine aD [(.pure,0),(.pure,2),(.ext,1),(.ext,3),(.ext,4),(.pure,5),(.pure,6),(.fin,7),(.fin,8)] zk zk zR zP ?_
   refine Wk.out ?_
   (iterate 2 (first|(apply wk_skip;(rfl);(rfl);(rfl);(intro J hJ;go_simp;(with_reducible refine hJ _ ?_);clear hJ J))|(apply wk_len;(rfl);(rfl);(rfl);(rfl);(exact zk);(intro J hJ;go_simp;(with_reducible refine hJ _ ?_);clear hJ J))|(apply wk_pure;(rfl);(rfl);(intro J hJ;go_simp;(with_reducible refine hJ _ ?_);clear hJ J))|(apply wk_load;(rfl);(rfl);(rfl);(rfl);(intro J hJ;go_simp;(with_reducible refine hJ _ ?_);clear hJ J;try go_simp))))
   refine wk_ext rfl rfl (fun wa hba J hJ=>?_);go_simp
   have za:Below wr.heap.size wr wa:=belA
   refine (HMn.out _ (HP.out.bl.later za)).mono ?_
   rintro e wb ⟨rfl,hb⟩
   have zb:=Bt za hb
   refine hJ _ _ hb ?_
   clear hJ J hb hba za HMn
   refine wk_ext rfl rfl (fun wc hbc J hJ=>?_);go_simp
   have zc:=Bt zb hbc
   refine (HMx.out _ (HP.out.bh.later zc)).mono ?_
   rintro e wd ⟨rfl,hb⟩
   have zd:=Bt zc hb
   refine hJ _ _ hb ?_
   clear hJ J hb hbc zb zc HMx
   refine wk_ext rfl rfl (fun we hbe J hJ=>?_);go_simp
   have ze:=Bt zd hbe
   refine (HMd.out _).mono ?_
   rintro e wf ⟨rfl,hb⟩
   have zf:=Bt ze hb
   refine hJ _ _ hb ?_
   clear hJ J hb hbe zd ze HMd
   (iterate 2 (first|(apply wk_skip;(rfl);(rfl);(rfl);(intro J hJ;go_simp;(with_reducible refine hJ _ ?_);clear hJ J))|(apply wk_len;(rfl);(rfl);(rfl);(rfl);(exact zk);(intro J hJ;go_simp;(with_reducible refine hJ _ ?_);clear hJ J))|(apply wk_pure;(rfl);(rfl);(intro J hJ;go_simp;(with_reducible refine hJ _ ?_);clear hJ J))|(apply wk_load;(rfl);(rfl);(rfl);(rfl);(intro J hJ;go_simp;(with_reducible refine hJ _ ?_);clear hJ J;try go_simp))))
   refine wk_fin [_,_] rfl (fun wg hbg=>?_)
   have jW:=zh (HP.out.later (Bt zf hbg))
   clear zf hbg HP
   obtain ⟨c6,l6,f6⟩:=(zh jW.out.br).clf
   go_wp2_with fail
   rw [Exit.noGoto_ret]
   exact bodyPost_ret (v:=.tuple #[.agg #[.int .i64 s1,.int .i64 s2],.int .i64 s3]) (by have h6:=((jW.out.br.set 0 (.int .i64 s1)).set 1 (.int .i64 s2)).cell;have Gw:=h6 0;have Gv:=h6 1;simp [results,Tryz.results144,go_sem,Gw,Gv]) rfl ⟨rfl,(jW.out.bw.setCell (p:=⟨w.heap.size+1+1,0,none⟩) (by simp;omega) _).setCell (p:=⟨w.heap.size+1+1,1,none⟩) (by simp;omega) _⟩
theorem Yk (x y z t:Int) (h0:okB [(x,y),(z,t)]=true) (b c:Nat) (w:World) (h:ah w b #[.int .i64 x,.int .i64 y] 69) (k:ah w c #[.int .i64 z,.int .i64 t] 69) :
  Calls Tryz.prog 143 #[.pointer (some ⟨b,0,none⟩),.pointer (some ⟨c,0,none⟩)] w (fun e w'=>e= .returned (iw (Co (x,y) (z,t)))∧Below w.heap.size w w'):=by
 have h0':mM x y=true∧mM z t=true:=by simpa [okB] using h0
 obtain ⟨hk1,hk2,hk3⟩: -1000000000000000000≤x∧x≤y∧y≤1000000000000000000:=by simpa [mM] using h0'.1
 obtain ⟨hk4,hk5,hk6⟩: -1000000000000000000≤z∧z≤t∧t≤1000000000000000000:=by simpa [mM] using h0'.2
 have H:=zh (fun W=>Nn x y z t zo zo zo zo W)
 generalize Co (x,y) (z,t)=m at *
 obtain ⟨⟨m1,m2⟩,m3⟩:=m
 unfold iw at *
 simp only at *
 have cb:=h.cell
 have lb:=h.lt
 have cc:=k.cell
 have lc:=k.lt
 clear h k h0 h0' hk1 hk2 hk3 hk4 hk5 hk6
 go_enter Tryz.func143,Tryz.ntmps143
 go_wp2_with fail
 refine (H.out _).mono ?_
 rintro e w1 ⟨rfl,hb1⟩
 have hx:=ah.later (ah.new w #[.int .i64 0,.int .i64 0] 69) hb1
 have cx:=hx.cell
 have fx:=hx.free
 have lx:=hx.lt
 have hw:=Bt (show Below w.heap.size w (w.alloc (.cells #[.int .i64 0,.int .i64 0] 69)) from belA) hb1
 go_wp2_with fail
 refine bH rfl rfl boxA Tryz.underlying69 rfl zk ?_
 exact ⟨rfl,belA⟩
theorem ah6 (x y z t:Int) (w:World):Calls Tryz.prog 87 #[.agg #[.int .i64 x,.int .i64 y],.agg #[.int .i64 z,.int .i64 t]] w (fun e w'=>e= .returned (iw (vM (x,y) (z,t)))∧Below w.heap.size w w'):=by
 have H:Hid (∀ W b c d,ah W b #[.int .i64 x,.int .i64 y] 69→ah W c #[.int .i64 z,.int .i64 t] 69→ah W d #[.int .i64 x,.int .i64 y,.int .i64 z,.int .i64 t] 69→Calls Tryz.prog 142 #[.func (.func 143) #[] #[.pointer (some ⟨b,0,none⟩),.pointer (some ⟨c,0,none⟩)],.slice (some ⟨d,0,none⟩) 2 2] W (fun e w'=>e= .returned (iw (vM (x,y) (z,t)))∧Below W.heap.size W w')):=zh fun W b c d h1 h2 h3 =>
  zX 143 #[.pointer (some ⟨b,0,none⟩),.pointer (some ⟨c,0,none⟩)] _ _ _ _ W (vC.two h3) (fun h W' hW'=>Yk x y z t h b c W' (h1.later hW') (h2.later hW')) (fun args W=>by rfl)
 generalize vM (x,y) (z,t)=m at *
 obtain ⟨⟨m1,m2⟩,m3⟩:=m
 unfold iw at *
 simp only at *
 go_enter Tryz.func87,Tryz.ntmps87
 go_wp2_with fail
 obtain ⟨wx,EW,hz,X,Y,R,Z⟩:=al4 w #[.int .i64 x,.int .i64 y] 69 #[.int .i64 z,.int .i64 t] 69 #[.int .i64 0,.int .i64 0] 69 #[.int .i64 x,.int .i64 y,.int .i64 z,.int .i64 t] 69
 rw [EW]
 clear EW
 have HB:=zh hz
 clear hz
 refine (H.out _ _ _ _ X.out Y.out Z.out).mono ?_
 rintro e w1 ⟨rfl,hb1⟩
 replace R:=R.bl hb1
 replace HB:=zh (Bt HB.out hb1)
 clear hb1 H
 have hx:=R.out
 have cx:=hx.cell
 have fx:=hx.free
 have lx:=hx.lt
 have hw:=HB.out
 go_wp2_with fail
 refine bH rfl rfl boxA Tryz.underlying69 rfl zk ?_
 exact ⟨rfl,belA⟩
end Go.Proofs.fM
namespace Go.dF
open Go Go.Num
def Sh (rs:IM) (a b c:Nat→Int):Prop:=rs.length=3∧(∀ i,i<3→(rs.getD i []).length=6)∧∀ j,j<6→rs.at 0 j=a j∧rs.at 1 j=b j∧rs.at 2 j=c j
theorem Sh.congr {rs:IM} {a b c a' b' c':Nat→Int} (h:Sh rs a b c) (k:∀ j,j<6→a j=a' j∧b j=b' j∧c j=c' j):Sh rs a' b' c' :=
 ⟨h.1,h.2.1,fun j hj=>by obtain ⟨x,y,z⟩:=h.2.2 j hj;obtain ⟨x',y',z'⟩:=k j hj;exact ⟨x.trans x',y.trans y',z.trans z'⟩⟩
theorem Sh.swap {rs:IM} {a b c:Nat→Int} (h:Sh rs a b c) {i k:Nat} (hi:i<3) (hk:k<3) (j:Nat) (hj:j<3):(lK rs i k).getD j []=rs.getD (if j=k then i else if j=i then k else j) []:=oH h.1 hi hk hj
def ShN (N:Nat) (rs:IM) (n:Nat) (F:Nat→Nat→Int):Prop:=rs.length=n∧(∀ i,i<n→(rs.getD i []).length=N)∧∀ i,i<n→∀ j,j<N→rs.at i j=F i j
def Nc (a b i:Nat):Nat:=if i=b then a else if i=a then b else i
def clr (F:Nat→Nat→Int) (k:Nat) (p:Int) (i j:Nat):Int:=if i=k then F k j else quo (F k k*F i j+ -(F i k*F k j)) p
theorem ShN.congr {N n:Nat} {rs:IM} {F G:Nat→Nat→Int} (h:ShN N rs n F) (k:∀ i,i<n→∀ j,j<N→F i j=G i j):ShN N rs n G :=
 ⟨h.1,h.2.1,fun i hi j hj=>(h.2.2 i hi j hj).trans (k i hi j hj)⟩
theorem ShN.clear {N n:Nat} {rs:IM} {F:Nat→Nat→Int} (h:ShN N rs n F) {k:Nat} (hk:k<n) (hkN:k<N) (p:Int):ShN N (iL rs k p) n (clr F k p):=by
 obtain ⟨h1,h2,h3⟩:=h
 refine ⟨by rw [ko,h1],fun i hi=>?_,fun i hi j hj=>?_⟩
 ·rw [iZ zo]
  unfold gX
  split
  ·exact h2 i hi
  ·rw [qK];exact h2 i hi
 ·unfold IM.at
  rw [iZ zo]
  unfold gX clr
  by_cases e:i=k
  ·subst e
   rw [if_pos rfl,if_pos rfl]
   exact h3 i hi j hj
  ·rw [if_neg e,if_neg e,BA (by rw [h2 i hi];exact hj)]
   unfold BG
   have a:=h3 i hi j hj
   have b:=h3 i hi k hkN
   have c:=h3 k hk k hkN
   have d:=h3 k hk j hj
   unfold IM.at at a b c d
   rw [a,b,c,d]
theorem ShN.swap {N n:Nat} {rs:IM} {F:Nat→Nat→Int} (h:ShN N rs n F) {i k:Nat} (hi:i<n) (hk:k<n):ShN N (lK rs i k) n (fun r j=>F (Nc i k r) j):=by
 obtain ⟨h1,h2,h3⟩:=h
 have key:=fun j hj=>oH (j:=j) h1 hi hk hj
 have ht:∀ r,r<n→Nc i k r<n:=fun r hr=>by unfold Nc;split<;>(try split)<;>omega
 refine ⟨by simp [lK,h1],fun j hj=>?_,fun r hr j hj=>?_⟩
 ·rw [key j hj]
  exact h2 _ (ht j hj)
 ·unfold IM.at
  rw [key r hr]
  exact h3 _ (ht r hr) j hj
def D2 (U:Nat→Nat→Int) (r s a b:Nat):Int:=U r a*U s b - U s a*U r b
def D3 (U:Nat→Nat→Int) (r s q a b c:Nat):Int:=U r a*(U s b*U q c - U q b*U s c) - U r b*(U s a*U q c - U q a*U s c)+U r c*(U s a*U q b - U q a*U s b)
def D4 (U:Nat→Nat→Int) (a b c d:Nat):Int:=U 0 a*D3 U 1 2 3 b c d - U 0 b*D3 U 1 2 3 a c d+U 0 c*D3 U 1 2 3 a b d - U 0 d*D3 U 1 2 3 a b c
def dtn (n:Nat) (U:Nat→Nat→Int):Int:=if n=1 then U 0 0 else if n=2 then D2 U 0 1 0 1 else if n=3 then D3 U 0 1 2 0 1 2 else D4 U 0 1 2 3
def sm4 (n:Nat) (f:Nat→Int):Int:=if n=1 then f 0 else if n=2 then f 0+f 1 else if n=3 then f 0+f 1+f 2 else f 0+f 1+f 2+f 3
def ai2 (N n:Nat) (U:Nat→Nat→Int) (t:Bool) (R:Int × Bool × IM):Prop :=
 (if R.2.1=t then R.1 else -R.1)=dtn n U∧(R.1≠0→∀ i,i<n→∀ j,j<N→sm4 n (fun k=>U i k*R.2.2.at k j)=R.1*U i j)
theorem XD {n:Nat} (hn:1≤n∧n≤4) {a b:Nat} (hab:b<a) (ha:a<n) (U:Nat→Nat→Int):dtn n (fun r j=>U (Nc a b r) j)= -dtn n U:=by
 have hc:(n=2∧a=1∧b=0)∨(n=3∧((a=1∧b=0)∨(a=2∧b=0)∨(a=2∧b=1)))∨(n=4∧((a=1∧b=0)∨(a=2∧b=0)∨(a=2∧b=1)∨(a=3∧b=0)∨(a=3∧b=1)∨(a=3∧b=2))):=by omega
 rcases hc with ⟨rfl,rfl,rfl⟩|⟨rfl,⟨rfl,rfl⟩|⟨rfl,rfl⟩|⟨rfl,rfl⟩⟩|⟨rfl,⟨rfl,rfl⟩|⟨rfl,rfl⟩|⟨rfl,rfl⟩|⟨rfl,rfl⟩|⟨rfl,rfl⟩|⟨rfl,rfl⟩⟩ <;>
  (simp [dtn,D2,D3,D4,Nc];try grind)
theorem ai2.swap {N n:Nat} (hn:1≤n∧n≤4) {U:Nat→Nat→Int} {t:Bool} {R:Int × Bool × IM} {a b:Nat} (hab:b≤a) (ha:a<n) (h:ai2 N n (fun r j=>U (Nc a b r) j) (if a=b then t else !t) R):ai2 N n U t R:=by
 by_cases e:a=b
 ·subst e
  rw [if_pos rfl] at h
  have:(fun r j=>U (Nc a a r) j)=U:=by
   funext r j
   unfold Nc
   split<;>(try split)<;>simp_all
  rw [this] at h
  exact h
 ·rw [if_neg e] at h
  obtain ⟨h1,h2⟩:=h
  rw [XD hn zo ha] at h1
  refine ⟨?_,fun h0 i hi j hj=>?_⟩
  ·cases hr:R.2.1<;>cases t<;>simp [hr] at h1 ⊢<;>omega
  ·have ht:Nc a b (Nc a b i)=i:=by unfold Nc;split<;>(try split)<;>(try split)<;>omega
   have:=h2 h0 (Nc a b i) (by unfold Nc;split<;>(try split)<;>omega) j hj
   simp only [ht] at this
   exact this
def R2 (U:Nat→Nat→Rat) (r s a b:Nat):Rat:=U r a*U s b - U s a*U r b
end Go.dF
