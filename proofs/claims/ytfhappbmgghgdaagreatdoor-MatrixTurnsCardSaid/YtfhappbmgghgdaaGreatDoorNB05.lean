/- Lemmas for the proof. No condition. -/
import Derived.Test.YtfhappbmgghgdaaGreatDoorNB01
import Derived.Test.YtfhappbmgghgdaaGreatDoorNB02
import Derived.Test.YtfhappbmgghgdaaGreatDoorNB04
set_option linter.unusedVariables false
set_option linter.unusedSimpArgs false
set_option maxRecDepth 100000
set_option maxHeartbeats 16000000
namespace Go.Proofs.band
open Go Go.RowKit Go.SW Go.Num Go.Mem Go.Proofs Go.Fra
def prX (a:Int × Int) (k:Nat):Int:=if k / 2=0 then a.1 else a.2
def prY (b:Int × Int) (k:Nat):Int:=if k%2=0 then b.1 else b.2
def loE (a b:Int × Int) (k:Nat):Int × Bool:=quoE (prX a k) (prY b k) 1000000000000 false
def hiE (a b:Int × Int) (k:Nat):Int × Bool:=quoE (prX a k) (prY b k) 1000000000000 true
def fit4 (a b:Int × Int):Bool:=(List.range 4).all fun k=>(loE a b k).2&&(hiE a b k).2
def sprE (a b:Int × Int):(Int × Int) × Int:=if fit4 a b then madeE ([(loE a b 0).1,(loE a b 1).1,(loE a b 2).1,(loE a b 3).1].foldl min (loE a b 0).1) ([(hiE a b 0).1,(hiE a b 1).1,(hiE a b 2).1,(hiE a b 3).1].foldl max (hiE a b 0).1) else ((0,0),6)
def mulE (a b:Int × Int):(Int × Int) × Int:=if okB [a,b] then sprE a b else ((0,0),30)
def fst4 (f:Nat→Int × Bool) (k q:Nat):Int:=if q<k then (f q).1 else 0
def arr4 (f:Nat→Int × Bool) (k:Nat):Array Value:=#[.int .i64 (fst4 f k 0),.int .i64 (fst4 f k 1),.int .i64 (fst4 f k 2),.int .i64 (fst4 f k 3)]
theorem Box.new4 (w:World) (o o2 o3 o4:Obj) (cs:Array Value) (T:TypeId):Box (((((w.alloc o).alloc o2).alloc o3).alloc o4).alloc (.cells cs T (0,0))) (w.heap.size+1+1+1+1) cs T:=Box.new_at zi
theorem al5x (w:World) (c0:Array Value) (T0:TypeId) (c1:Array Value) (T1:TypeId) (c2:Array Value) (T2:TypeId) (c3:Array Value) (T3:TypeId) (c4:Array Value) (T4:TypeId):∃ y,((((w.alloc (.cells c0 T0 (0,0))).alloc (.cells c1 T1 (0,0))).alloc (.cells c2 T2 (0,0))).alloc (.cells c3 T3 (0,0))).alloc (.cells c4 T4 (0,0))=y∧Below w.heap.size w y∧Hid (Box y (w.heap.size) c0 T0)∧Hid (Box y (w.heap.size+1) c1 T1)∧Hid (Box y (w.heap.size+1+1) c2 T2)∧Hid (Box y (w.heap.size+1+1+1) c3 T3)∧Hid (Box y (w.heap.size+1+1+1+1) c4 T4):=⟨_,rfl,Below_alloc (Below_alloc (Below_alloc (Below_alloc (Below_alloc (Below.refl _ _) _) _) _) _) _,zh (Box.alloc (Box.alloc (Box.alloc (Box.alloc (Box.new _ _ _) _) _) _) _),zh (Box.alloc (Box.alloc (Box.alloc (Box.at1 _ _ _ _) _) _) _),zh (Box.alloc (Box.alloc (Box.at2 _ _ _ _ _) _) _),zh (Box.alloc (Box.at3 _ _ _ _ _ _) _),zh (Box.new4 _ _ _ _ _ _ _)⟩
structure Spd (w0:World) (a b:Int × Int) (wr:World) (k:Nat):Prop where
 ba:Box wr w0.heap.size #[.int .i64 a.1,.int .i64 a.2] 69
 bb:Box wr (w0.heap.size+1) #[.int .i64 b.1,.int .i64 b.2] 69
 br:Box wr (w0.heap.size+1+1) #[.int .i64 0,.int .i64 0] 69
 bl:Box wr (w0.heap.size+1+1+1) (arr4 (loE a b) k) 261
 bh:Box wr (w0.heap.size+1+1+1+1) (arr4 (hiE a b) k) 261
 bw:Below w0.heap.size w0 wr
 ok:∀ q,q<k→(loE a b q).2=true∧(hiE a b q).2=true
theorem Spd.later {w0 wr w':World} {a b:Int × Int} {k:Nat} (h:Spd w0 a b wr k) (hb:Below wr.heap.size wr w'):Spd w0 a b w' k :=
 ⟨h.ba.later hb,h.bb.later hb,h.br.later hb,h.bl.later hb,h.bh.later hb,Bt h.bw hb,h.ok⟩
theorem arr4_set (f:Nat→Int × Bool) {k:Nat} (hk:k<4):(arr4 f k).setIfInBounds k (.int .i64 (f k).1)=arr4 f (k+1):=by
 have:k=0∨k=1∨k=2∨k=3:=by omega
 rcases this with rfl|rfl|rfl|rfl<;>simp [arr4,fst4]
theorem Spd.step {w0 wr:World} {a b:Int × Int} {k:Nat} (h:Spd w0 a b wr k) (hk:k<4) (h1:(loE a b k).2=true) (h2:(hiE a b k).2=true) :
  Spd w0 a b ((wr.setCell ⟨w0.heap.size+1+1+1,k,none⟩ (.int .i64 (loE a b k).1)).setCell ⟨w0.heap.size+1+1+1+1,k,none⟩ (.int .i64 (hiE a b k).1)) (k+1) where
 ba:=Box.setOther (Box.setOther h.ba _ (by first|(simp;done)|(simp;omega))) _ (by first|(simp;done)|(simp;omega))
 bb:=Box.setOther (Box.setOther h.bb _ (by first|(simp;done)|(simp;omega))) _ (by first|(simp;done)|(simp;omega))
 br:=Box.setOther (Box.setOther h.br _ zi) _ (by first|(simp;done)|(simp;omega))
 bl:=by
  have:=Box.setOther (h.bl.set k (.int .i64 (loE a b k).1)) (a:=⟨w0.heap.size+1+1+1+1,k,none⟩) (.int .i64 (hiE a b k).1) zi
  rwa [arr4_set _ hk] at this
 bh:=by
  have:=(Box.setOther h.bh (a:=⟨w0.heap.size+1+1+1,k,none⟩) (.int .i64 (loE a b k).1) zi).set k (.int .i64 (hiE a b k).1)
  rwa [arr4_set _ hk] at this
 bw:=(h.bw.setCell (p:=⟨w0.heap.size+1+1+1,k,none⟩) (by simp;omega) _).setCell (p:=⟨w0.heap.size+1+1+1+1,k,none⟩) (by simp;omega) _
 ok:=fun q hq=>by
  rcases Nat.lt_or_ge q k with h'|h'
  ·exact h.ok q h'
  ·obtain rfl:q=k:=by omega
   exact ⟨h1,h2⟩
theorem four_at (f:Nat→Int × Bool) (j:Nat) (h:j<[(f 0).1,(f 1).1,(f 2).1,(f 3).1].length):(arr4 f 4)[j]? =some (.int .i64 [(f 0).1,(f 1).1,(f 2).1,(f 3).1][j]):=by
 have:j=0∨j=1∨j=2∨j=3:=by have:j<4:=h;omega
 rcases this with rfl|rfl|rfl|rfl<;>simp [arr4,fst4]
theorem spr_no {a b:Int × Int} {k:Nat} (hk:k<4) (h:(loE a b k).2=false∨(hiE a b k).2=false):sprE a b=((0,0),6):=by
 unfold sprE
 rw [if_neg]
 intro hf
 unfold fit4 at hf
 have:=List.all_eq_true.1 hf k (by simp [hk])
 rcases h with h|h<;>simp [h] at this
theorem spread_ok (x y z t:Int) (hx:x.natAbs≤1000000000000000000) (hy:y.natAbs≤1000000000000000000) (hz:z.natAbs≤1000000000000000000) (ht:t.natAbs≤1000000000000000000) (w:World) :
  Calls Tryz.prog 144 #[.agg #[.int .i64 x,.int .i64 y],.agg #[.int .i64 z,.int .i64 t],.func (.func 145) #[] #[]] w (fun e w'=>e= .returned (bndV (sprE (x,y) (z,t)))∧Below w.heap.size w w'):=by
 have hpx:∀ k,(prX (x,y) k).natAbs≤1000000000000000000:=fun k=>by unfold prX;split<;>assumption
 have hpy:∀ k,(prY (z,t) k).natAbs≤1000000000000000000:=fun k=>by unfold prY;split<;>assumption
 have HL:Hid (∀ k W,Calls Tryz.prog 145 #[.int .i64 (prX (x,y) k),.int .i64 (prY (z,t) k),.bool false] W (fun e w'=>e= .returned (.tuple #[.int .i64 (loE (x,y) (z,t) k).1,.bool (loE (x,y) (z,t) k).2])∧Below W.heap.size W w')):=zh (fun k W=>Mul2_ok (prX (x,y) k) (prY (z,t) k) false (hpx k) (hpy k) W)
 have HH:Hid (∀ k W,Calls Tryz.prog 145 #[.int .i64 (prX (x,y) k),.int .i64 (prY (z,t) k),.bool true] W (fun e w'=>e= .returned (.tuple #[.int .i64 (hiE (x,y) (z,t) k).1,.bool (hiE (x,y) (z,t) k).2])∧Below W.heap.size W w')):=zh (fun k W=>Mul2_ok (prX (x,y) k) (prY (z,t) k) true (hpx k) (hpy k) W)
 have HN:=zh (fun k (hk:k<4) h=>spr_no (a:=(x,y)) (b:=(z,t)) (k:=k) hk h)
 have HY:Hid (Spd w (x,y) (z,t) w 4→True):=zh fun _=>trivial
 obtain ⟨⟨⟨s1,s2⟩,s3⟩,es⟩:∃ s,sprE (x,y) (z,t)=s:=⟨_,rfl⟩
 rw [es]
 have HS:=zh es
 unfold bndV
 clear hx hy hz ht hpx hpy es HY
 go_enter Tryz.func144,Tryz.ntmps144
 go_wp2_with fail
 go_step3
 go_wp2_with fail
 go_step3
 go_wp2_with fail
 obtain ⟨w0,EW,hb,X3,X4,X6,X8,X9⟩:=al5x w #[.int .i64 x,.int .i64 y] 69 #[.int .i64 z,.int .i64 t] 69 #[.int .i64 0,.int .i64 0] 69 #[.int .i64 0,.int .i64 0,.int .i64 0,.int .i64 0] 261 #[.int .i64 0,.int .i64 0,.int .i64 0,.int .i64 0] 261
 rw [EW]
 clear EW
 have HS0:Hid (Spd w (x,y) (z,t) w0 0):=zh ⟨X3.out,X4.out,X6.out,X8.out,X9.out,hb,fun q h=>absurd h zo⟩
 clear X3 X4 X6 X8 X9 hb
 go_loopw [10,24] (fun fv iv wr=>∃ i:Int,fv= .bool true∧iv= .int .i64 i∧Hid ((i=0∧Spd w (x,y) (z,t) wr 0)∨(i=1∧Spd w (x,y) (z,t) wr 2)∨(i=2∧Spd w (x,y) (z,t) wr 4))) (fun _ iv _=>2 - (intOf iv).toNat)
 case atStart=>exact ⟨0,rfl,rfl,zh (.inl ⟨rfl,HS0.out⟩)⟩
 case round =>
  clear HS0
  obtain ⟨i,rfl,rfl,HI⟩:=hrel
  rcases HI.out with ⟨rfl,hS⟩|⟨rfl,hS⟩|⟨rfl,hS⟩
  ·clear HI
   have hix:∀ W,(Instr.index 32 (.agg #[.int .i64 x,.int .i64 y]) (.int .i64 0)).run Tryz.prog W= .ok (.int .i64 x) W:=fun W=>by kernel_rfl
   obtain ⟨c4,l4⟩:=(zh hS.bb).cl
   have HS0:=zh hS
   clear hS
   go_wp2_with fail
   clear hix c4 l4
   go_loopw [10,33] (fun fv jv wr=>∃ j:Int,fv= .bool true∧jv= .int .i64 j∧Hid ((j=0∧Spd w (x,y) (z,t) wr 0)∨(j=1∧Spd w (x,y) (z,t) wr 1)∨(j=2∧Spd w (x,y) (z,t) wr 2))) (fun _ jv _=>2 - (intOf jv).toNat)
   case atStart=>exact ⟨0,rfl,rfl,zh (.inl ⟨rfl,HS0.out⟩)⟩
   case round =>
    clear HS0
    obtain ⟨j,rfl,rfl,HJ⟩:=hrel
    rcases HJ.out with ⟨rfl,hS⟩|⟨rfl,hS⟩|⟨rfl,hS⟩
    ·clear HJ
     obtain ⟨⟨l1,l2⟩,el⟩:∃ v,loE (x,y) (z,t) 0=v:=⟨_,rfl⟩
     obtain ⟨⟨h1,h2⟩,eh⟩:∃ v,hiE (x,y) (z,t) 0=v:=⟨_,rfl⟩
     have HLk:=zh (HL.out 0)
     have HHk:=zh (HH.out 0)
     rw [el] at HLk
     rw [eh] at HHk
     have EL:=zh (And.intro el eh)
     have HP0:=zh hS
     clear el eh hS
     have hix2:∀ W,(Instr.index 32 (.agg #[.int .i64 z,.int .i64 t]) (.int .i64 0)).run Tryz.prog W= .ok (.int .i64 z) W:=fun W=>by kernel_rfl
     go_wp2_with fail
     refine (HLk.out _).mono ?_
     rintro e w1 ⟨rfl,hb⟩
     have HP1:=zh (HP0.out.later hb)
     clear hb hix2 HLk HP0
     go_wp2_with fail
     refine (HHk.out _).mono ?_
     rintro e w2 ⟨rfl,hb⟩
     have HP2:=zh (HP1.out.later hb)
     clear hb HHk HP1
     cases l2
     ·obtain ⟨rfl,rfl,rfl⟩:s1=0∧s2=0∧s3=6:=by have h:=HS.out;rw [HN.out 0 zo (by rw [EL.out.1];exact .inl rfl)] at h;cases h;exact ⟨rfl,rfl,rfl⟩
      obtain ⟨c6,l6,f6⟩:=(zh HP2.out.br).clf
      go_wp2_with fail
      rw [Exit.noGoto_ret]
      exact bodyPost_ret (v:=.tuple #[.agg #[.int .i64 0,.int .i64 0],.int .i64 6]) (by have h6:=((HP2.out.br.set 0 (.int .i64 0)).set 1 (.int .i64 0)).cell;have h60:=h6 0;have h61:=h6 1;simp [results,Tryz.results144,go_sem,h60,h61]) rfl ⟨rfl,(HP2.out.bw.setCell (p:=⟨w.heap.size+1+1,0,none⟩) (by simp;omega) _).setCell (p:=⟨w.heap.size+1+1,1,none⟩) (by simp;omega) _⟩
     ·cases h2
      ·obtain ⟨rfl,rfl,rfl⟩:s1=0∧s2=0∧s3=6:=by have h:=HS.out;rw [HN.out 0 zo (by rw [EL.out.2];exact .inr rfl)] at h;cases h;exact ⟨rfl,rfl,rfl⟩
       obtain ⟨c6,l6,f6⟩:=(zh HP2.out.br).clf
       go_wp2_with fail
       rw [Exit.noGoto_ret]
       exact bodyPost_ret (v:=.tuple #[.agg #[.int .i64 0,.int .i64 0],.int .i64 6]) (by have h6:=((HP2.out.br.set 0 (.int .i64 0)).set 1 (.int .i64 0)).cell;have h60:=h6 0;have h61:=h6 1;simp [results,Tryz.results144,go_sem,h60,h61]) rfl ⟨rfl,(HP2.out.bw.setCell (p:=⟨w.heap.size+1+1,0,none⟩) (by simp;omega) _).setCell (p:=⟨w.heap.size+1+1,1,none⟩) (by simp;omega) _⟩
      ·obtain ⟨c8,l8,f8⟩:=(zh HP2.out.bl).clf
       obtain ⟨c9,l9,f9⟩:=(zh HP2.out.bh).clf
       unfold arr4 at c8 c9
       have HP3:=zh (HP2.out.step (k:=0) zo (by rw [EL.out.1]) (by rw [EL.out.2]))
       rw [EL.out.1,EL.out.2] at HP3
       clear HP2
       go_wp2_with fail
       go_roundw
       case rel=>exact ⟨1,rfl,rfl,zh (.inr<| .inl ⟨rfl,HP3.out⟩)⟩
       case measure=>simp [intOf]
    ·clear HJ
     obtain ⟨⟨l1,l2⟩,el⟩:∃ v,loE (x,y) (z,t) 1=v:=⟨_,rfl⟩
     obtain ⟨⟨h1,h2⟩,eh⟩:∃ v,hiE (x,y) (z,t) 1=v:=⟨_,rfl⟩
     have HLk:=zh (HL.out 1)
     have HHk:=zh (HH.out 1)
     rw [el] at HLk
     rw [eh] at HHk
     have EL:=zh (And.intro el eh)
     have HP0:=zh hS
     clear el eh hS
     have hix2:∀ W,(Instr.index 32 (.agg #[.int .i64 z,.int .i64 t]) (.int .i64 1)).run Tryz.prog W= .ok (.int .i64 t) W:=fun W=>by kernel_rfl
     go_wp2_with fail
     refine (HLk.out _).mono ?_
     rintro e w1 ⟨rfl,hb⟩
     have HP1:=zh (HP0.out.later hb)
     clear hb hix2 HLk HP0
     go_wp2_with fail
     refine (HHk.out _).mono ?_
     rintro e w2 ⟨rfl,hb⟩
     have HP2:=zh (HP1.out.later hb)
     clear hb HHk HP1
     cases l2
     ·obtain ⟨rfl,rfl,rfl⟩:s1=0∧s2=0∧s3=6:=by have h:=HS.out;rw [HN.out 1 zo (by rw [EL.out.1];exact .inl rfl)] at h;cases h;exact ⟨rfl,rfl,rfl⟩
      obtain ⟨c6,l6,f6⟩:=(zh HP2.out.br).clf
      go_wp2_with fail
      rw [Exit.noGoto_ret]
      exact bodyPost_ret (v:=.tuple #[.agg #[.int .i64 0,.int .i64 0],.int .i64 6]) (by have h6:=((HP2.out.br.set 0 (.int .i64 0)).set 1 (.int .i64 0)).cell;have h60:=h6 0;have h61:=h6 1;simp [results,Tryz.results144,go_sem,h60,h61]) rfl ⟨rfl,(HP2.out.bw.setCell (p:=⟨w.heap.size+1+1,0,none⟩) (by simp;omega) _).setCell (p:=⟨w.heap.size+1+1,1,none⟩) (by simp;omega) _⟩
     ·cases h2
      ·obtain ⟨rfl,rfl,rfl⟩:s1=0∧s2=0∧s3=6:=by have h:=HS.out;rw [HN.out 1 zo (by rw [EL.out.2];exact .inr rfl)] at h;cases h;exact ⟨rfl,rfl,rfl⟩
       obtain ⟨c6,l6,f6⟩:=(zh HP2.out.br).clf
       go_wp2_with fail
       rw [Exit.noGoto_ret]
       exact bodyPost_ret (v:=.tuple #[.agg #[.int .i64 0,.int .i64 0],.int .i64 6]) (by have h6:=((HP2.out.br.set 0 (.int .i64 0)).set 1 (.int .i64 0)).cell;have h60:=h6 0;have h61:=h6 1;simp [results,Tryz.results144,go_sem,h60,h61]) rfl ⟨rfl,(HP2.out.bw.setCell (p:=⟨w.heap.size+1+1,0,none⟩) (by simp;omega) _).setCell (p:=⟨w.heap.size+1+1,1,none⟩) (by simp;omega) _⟩
      ·obtain ⟨c8,l8,f8⟩:=(zh HP2.out.bl).clf
       obtain ⟨c9,l9,f9⟩:=(zh HP2.out.bh).clf
       unfold arr4 at c8 c9
       have HP3:=zh (HP2.out.step (k:=1) zo (by rw [EL.out.1]) (by rw [EL.out.2]))
       rw [EL.out.1,EL.out.2] at HP3
       clear HP2
       go_wp2_with fail
       go_roundw
       case rel=>exact ⟨2,rfl,rfl,zh (.inr<| .inr ⟨rfl,HP3.out⟩)⟩
       case measure=>simp [intOf]
    ·have HP3:=zh hS
     clear hS HJ
     go_wp2_with fail
     go_roundw
     case rel=>exact ⟨1,rfl,rfl,zh (.inr<| .inl ⟨rfl,HP3.out⟩)⟩
     case measure=>simp [intOf]
  ·clear HI
   have hix:∀ W,(Instr.index 32 (.agg #[.int .i64 x,.int .i64 y]) (.int .i64 1)).run Tryz.prog W= .ok (.int .i64 y) W:=fun W=>by kernel_rfl
   obtain ⟨c4,l4⟩:=(zh hS.bb).cl
   have HS0:=zh hS
   clear hS
   go_wp2_with fail
   clear hix c4 l4
   go_loopw [10,33] (fun fv jv wr=>∃ j:Int,fv= .bool true∧jv= .int .i64 j∧Hid ((j=0∧Spd w (x,y) (z,t) wr 2)∨(j=1∧Spd w (x,y) (z,t) wr 3)∨(j=2∧Spd w (x,y) (z,t) wr 4))) (fun _ jv _=>2 - (intOf jv).toNat)
   case atStart=>exact ⟨0,rfl,rfl,zh (.inl ⟨rfl,HS0.out⟩)⟩
   case round =>
    clear HS0
    obtain ⟨j,rfl,rfl,HJ⟩:=hrel
    rcases HJ.out with ⟨rfl,hS⟩|⟨rfl,hS⟩|⟨rfl,hS⟩
    ·clear HJ
     obtain ⟨⟨l1,l2⟩,el⟩:∃ v,loE (x,y) (z,t) 2=v:=⟨_,rfl⟩
     obtain ⟨⟨h1,h2⟩,eh⟩:∃ v,hiE (x,y) (z,t) 2=v:=⟨_,rfl⟩
     have HLk:=zh (HL.out 2)
     have HHk:=zh (HH.out 2)
     rw [el] at HLk
     rw [eh] at HHk
     have EL:=zh (And.intro el eh)
     have HP0:=zh hS
     clear el eh hS
     have hix2:∀ W,(Instr.index 32 (.agg #[.int .i64 z,.int .i64 t]) (.int .i64 0)).run Tryz.prog W= .ok (.int .i64 z) W:=fun W=>by kernel_rfl
     go_wp2_with fail
     refine (HLk.out _).mono ?_
     rintro e w1 ⟨rfl,hb⟩
     have HP1:=zh (HP0.out.later hb)
     clear hb hix2 HLk HP0
     go_wp2_with fail
     refine (HHk.out _).mono ?_
     rintro e w2 ⟨rfl,hb⟩
     have HP2:=zh (HP1.out.later hb)
     clear hb HHk HP1
     cases l2
     ·obtain ⟨rfl,rfl,rfl⟩:s1=0∧s2=0∧s3=6:=by have h:=HS.out;rw [HN.out 2 zo (by rw [EL.out.1];exact .inl rfl)] at h;cases h;exact ⟨rfl,rfl,rfl⟩
      obtain ⟨c6,l6,f6⟩:=(zh HP2.out.br).clf
      go_wp2_with fail
      rw [Exit.noGoto_ret]
      exact bodyPost_ret (v:=.tuple #[.agg #[.int .i64 0,.int .i64 0],.int .i64 6]) (by have h6:=((HP2.out.br.set 0 (.int .i64 0)).set 1 (.int .i64 0)).cell;have h60:=h6 0;have h61:=h6 1;simp [results,Tryz.results144,go_sem,h60,h61]) rfl ⟨rfl,(HP2.out.bw.setCell (p:=⟨w.heap.size+1+1,0,none⟩) (by simp;omega) _).setCell (p:=⟨w.heap.size+1+1,1,none⟩) (by simp;omega) _⟩
     ·cases h2
      ·obtain ⟨rfl,rfl,rfl⟩:s1=0∧s2=0∧s3=6:=by have h:=HS.out;rw [HN.out 2 zo (by rw [EL.out.2];exact .inr rfl)] at h;cases h;exact ⟨rfl,rfl,rfl⟩
       obtain ⟨c6,l6,f6⟩:=(zh HP2.out.br).clf
       go_wp2_with fail
       rw [Exit.noGoto_ret]
       exact bodyPost_ret (v:=.tuple #[.agg #[.int .i64 0,.int .i64 0],.int .i64 6]) (by have h6:=((HP2.out.br.set 0 (.int .i64 0)).set 1 (.int .i64 0)).cell;have h60:=h6 0;have h61:=h6 1;simp [results,Tryz.results144,go_sem,h60,h61]) rfl ⟨rfl,(HP2.out.bw.setCell (p:=⟨w.heap.size+1+1,0,none⟩) (by simp;omega) _).setCell (p:=⟨w.heap.size+1+1,1,none⟩) (by simp;omega) _⟩
      ·obtain ⟨c8,l8,f8⟩:=(zh HP2.out.bl).clf
       obtain ⟨c9,l9,f9⟩:=(zh HP2.out.bh).clf
       unfold arr4 at c8 c9
       have HP3:=zh (HP2.out.step (k:=2) zo (by rw [EL.out.1]) (by rw [EL.out.2]))
       rw [EL.out.1,EL.out.2] at HP3
       clear HP2
       go_wp2_with fail
       go_roundw
       case rel=>exact ⟨1,rfl,rfl,zh (.inr<| .inl ⟨rfl,HP3.out⟩)⟩
       case measure=>simp [intOf]
    ·clear HJ
     obtain ⟨⟨l1,l2⟩,el⟩:∃ v,loE (x,y) (z,t) 3=v:=⟨_,rfl⟩
     obtain ⟨⟨h1,h2⟩,eh⟩:∃ v,hiE (x,y) (z,t) 3=v:=⟨_,rfl⟩
     have HLk:=zh (HL.out 3)
     have HHk:=zh (HH.out 3)
     rw [el] at HLk
     rw [eh] at HHk
     have EL:=zh (And.intro el eh)
     have HP0:=zh hS
     clear el eh hS
     have hix2:∀ W,(Instr.index 32 (.agg #[.int .i64 z,.int .i64 t]) (.int .i64 1)).run Tryz.prog W= .ok (.int .i64 t) W:=fun W=>by kernel_rfl
     go_wp2_with fail
     refine (HLk.out _).mono ?_
     rintro e w1 ⟨rfl,hb⟩
     have HP1:=zh (HP0.out.later hb)
     clear hb hix2 HLk HP0
     go_wp2_with fail
     refine (HHk.out _).mono ?_
     rintro e w2 ⟨rfl,hb⟩
     have HP2:=zh (HP1.out.later hb)
     clear hb HHk HP1
     cases l2
     ·obtain ⟨rfl,rfl,rfl⟩:s1=0∧s2=0∧s3=6:=by have h:=HS.out;rw [HN.out 3 zo (by rw [EL.out.1];exact .inl rfl)] at h;cases h;exact ⟨rfl,rfl,rfl⟩
      obtain ⟨c6,l6,f6⟩:=(zh HP2.out.br).clf
      go_wp2_with fail
      rw [Exit.noGoto_ret]
      exact bodyPost_ret (v:=.tuple #[.agg #[.int .i64 0,.int .i64 0],.int .i64 6]) (by have h6:=((HP2.out.br.set 0 (.int .i64 0)).set 1 (.int .i64 0)).cell;have h60:=h6 0;have h61:=h6 1;simp [results,Tryz.results144,go_sem,h60,h61]) rfl ⟨rfl,(HP2.out.bw.setCell (p:=⟨w.heap.size+1+1,0,none⟩) (by simp;omega) _).setCell (p:=⟨w.heap.size+1+1,1,none⟩) (by simp;omega) _⟩
     ·cases h2
      ·obtain ⟨rfl,rfl,rfl⟩:s1=0∧s2=0∧s3=6:=by have h:=HS.out;rw [HN.out 3 zo (by rw [EL.out.2];exact .inr rfl)] at h;cases h;exact ⟨rfl,rfl,rfl⟩
       obtain ⟨c6,l6,f6⟩:=(zh HP2.out.br).clf
       go_wp2_with fail
       rw [Exit.noGoto_ret]
       exact bodyPost_ret (v:=.tuple #[.agg #[.int .i64 0,.int .i64 0],.int .i64 6]) (by have h6:=((HP2.out.br.set 0 (.int .i64 0)).set 1 (.int .i64 0)).cell;have h60:=h6 0;have h61:=h6 1;simp [results,Tryz.results144,go_sem,h60,h61]) rfl ⟨rfl,(HP2.out.bw.setCell (p:=⟨w.heap.size+1+1,0,none⟩) (by simp;omega) _).setCell (p:=⟨w.heap.size+1+1,1,none⟩) (by simp;omega) _⟩
      ·obtain ⟨c8,l8,f8⟩:=(zh HP2.out.bl).clf
       obtain ⟨c9,l9,f9⟩:=(zh HP2.out.bh).clf
       unfold arr4 at c8 c9
       have HP3:=zh (HP2.out.step (k:=3) zo (by rw [EL.out.1]) (by rw [EL.out.2]))
       rw [EL.out.1,EL.out.2] at HP3
       clear HP2
       go_wp2_with fail
       go_roundw
       case rel=>exact ⟨2,rfl,rfl,zh (.inr<| .inr ⟨rfl,HP3.out⟩)⟩
       case measure=>simp [intOf]
    ·have HP3:=zh hS
     clear hS HJ
     go_wp2_with fail
     go_roundw
     case rel=>exact ⟨2,rfl,rfl,zh (.inr<| .inr ⟨rfl,HP3.out⟩)⟩
     case measure=>simp [intOf]
  ·clear HI
   have HP:=zh hS
   clear hS
   have HMn:=zh (fun W h=>least_ok (w.heap.size+1+1+1) 4 [(loE (x,y) (z,t) 0).1,(loE (x,y) (z,t) 1).1,(loE (x,y) (z,t) 2).1,(loE (x,y) (z,t) 3).1] _ rfl (arr4 (loE (x,y) (z,t)) 4) 261 W h (four_at _) zi)
   have HMx:=zh (fun W h=>greatest_ok (w.heap.size+1+1+1+1) 4 [(hiE (x,y) (z,t) 0).1,(hiE (x,y) (z,t) 1).1,(hiE (x,y) (z,t) 2).1,(hiE (x,y) (z,t) 3).1] _ rfl (arr4 (hiE (x,y) (z,t)) 4) 261 W h (four_at _) zi)
   have HMd:=zh (fun lo hi W=>made_ok lo hi W)
   obtain ⟨mn,emn⟩:∃ v,[(loE (x,y) (z,t) 0).1,(loE (x,y) (z,t) 1).1,(loE (x,y) (z,t) 2).1,(loE (x,y) (z,t) 3).1].foldl min (loE (x,y) (z,t) 0).1=v:=⟨_,rfl⟩
   obtain ⟨mx,emx⟩:∃ v,[(hiE (x,y) (z,t) 0).1,(hiE (x,y) (z,t) 1).1,(hiE (x,y) (z,t) 2).1,(hiE (x,y) (z,t) 3).1].foldl max (hiE (x,y) (z,t) 0).1=v:=⟨_,rfl⟩
   have hsp:madeE mn mx=((s1,s2),s3):=by
    rw [← HS.out,← emn,← emx]
    unfold sprE
    rw [if_pos]
    unfold fit4
    rw [List.all_eq_true]
    intro q hq
    have hq4:q<4:=by simpa using hq
    have:=HP.out.ok q hq4
    simp [this.1,this.2]
   rw [emn] at HMn
   rw [emx] at HMx
   replace HMd:=zh (fun W=>HMd.out mn mx W)
   rw [hsp] at HMd
   unfold bndV at HMd
   clear emn emx hsp HL HH HN HS
   go_wp2_with fail
   refine wp_region_walk [(.pure,0),(.pure,2),(.ext,1),(.ext,3),(.ext,4),(.pure,5),(.pure,6),(.fin,7),(.fin,8)] zk zk zR zP ?_
   refine Wk.out ?_
   (iterate 2 (first|(apply wk_skip;(rfl);(rfl);(rfl);(intro J hJ;go_simp;(with_reducible refine hJ _ ?_);clear hJ J))|(apply wk_len;(rfl);(rfl);(rfl);(rfl);(exact zk);(intro J hJ;go_simp;(with_reducible refine hJ _ ?_);clear hJ J))|(apply wk_pure;(rfl);(rfl);(intro J hJ;go_simp;(with_reducible refine hJ _ ?_);clear hJ J))|(apply wk_load;(rfl);(rfl);(rfl);(rfl);(intro J hJ;go_simp;(with_reducible refine hJ _ ?_);clear hJ J;try go_simp))))
   refine wk_ext rfl rfl (fun wa hba J hJ=>?_);go_simp
   have za:Below wr.heap.size wr wa:=belA
   refine (HMn.out _ (HP.out.bl.later za)).mono ?_
   rintro e wb ⟨rfl,hb⟩
   have zb:=Bt za hb
   refine hJ _ _ hb ?_
   clear hJ J hb hba za HMn
   refine wk_ext rfl rfl (fun wc hbc J hJ=>?_);go_simp
   have zc:=Bt zb hbc
   refine (HMx.out _ (HP.out.bh.later zc)).mono ?_
   rintro e wd ⟨rfl,hb⟩
   have zd:=Bt zc hb
   refine hJ _ _ hb ?_
   clear hJ J hb hbc zb zc HMx
   refine wk_ext rfl rfl (fun we hbe J hJ=>?_);go_simp
   have ze:=Bt zd hbe
   refine (HMd.out _).mono ?_
   rintro e wf ⟨rfl,hb⟩
   have zf:=Bt ze hb
   refine hJ _ _ hb ?_
   clear hJ J hb hbe zd ze HMd
   (iterate 2 (first|(apply wk_skip;(rfl);(rfl);(rfl);(intro J hJ;go_simp;(with_reducible refine hJ _ ?_);clear hJ J))|(apply wk_len;(rfl);(rfl);(rfl);(rfl);(exact zk);(intro J hJ;go_simp;(with_reducible refine hJ _ ?_);clear hJ J))|(apply wk_pure;(rfl);(rfl);(intro J hJ;go_simp;(with_reducible refine hJ _ ?_);clear hJ J))|(apply wk_load;(rfl);(rfl);(rfl);(rfl);(intro J hJ;go_simp;(with_reducible refine hJ _ ?_);clear hJ J;try go_simp))))
   refine wk_fin [_,_] rfl (fun wg hbg=>?_)
   have HP2:=zh (HP.out.later (Bt zf hbg))
   clear zf hbg HP
   obtain ⟨c6,l6,f6⟩:=(zh HP2.out.br).clf
   go_wp2_with fail
   rw [Exit.noGoto_ret]
   exact bodyPost_ret (v:=.tuple #[.agg #[.int .i64 s1,.int .i64 s2],.int .i64 s3]) (by have h6:=((HP2.out.br.set 0 (.int .i64 s1)).set 1 (.int .i64 s2)).cell;have h60:=h6 0;have h61:=h6 1;simp [results,Tryz.results144,go_sem,h60,h61]) rfl ⟨rfl,(HP2.out.bw.setCell (p:=⟨w.heap.size+1+1,0,none⟩) (by simp;omega) _).setCell (p:=⟨w.heap.size+1+1,1,none⟩) (by simp;omega) _⟩
theorem Mul1_ok (x y z t:Int) (h0:okB [(x,y),(z,t)]=true) (b c:Nat) (w:World) (h:Box w b #[.int .i64 x,.int .i64 y] 69) (k:Box w c #[.int .i64 z,.int .i64 t] 69) :
  Calls Tryz.prog 143 #[.pointer (some ⟨b,0,none⟩),.pointer (some ⟨c,0,none⟩)] w (fun e w'=>e= .returned (bndV (sprE (x,y) (z,t)))∧Below w.heap.size w w'):=by
 have h0':bok x y=true∧bok z t=true:=by simpa [okB] using h0
 obtain ⟨hk1,hk2,hk3⟩: -1000000000000000000≤x∧x≤y∧y≤1000000000000000000:=by simpa [bok] using h0'.1
 obtain ⟨hk4,hk5,hk6⟩: -1000000000000000000≤z∧z≤t∧t≤1000000000000000000:=by simpa [bok] using h0'.2
 have H:=zh (fun W=>spread_ok x y z t zo zo zo zo W)
 generalize sprE (x,y) (z,t)=m at *
 obtain ⟨⟨m1,m2⟩,m3⟩:=m
 unfold bndV at *
 simp only at *
 have cb:=h.cell
 have lb:=h.lt
 have cc:=k.cell
 have lc:=k.lt
 clear h k h0 h0' hk1 hk2 hk3 hk4 hk5 hk6
 go_enter Tryz.func143,Tryz.ntmps143
 go_wp2_with fail
 refine (H.out _).mono ?_
 rintro e w1 ⟨rfl,hb1⟩
 have hx:=Box.later (Box.new w #[.int .i64 0,.int .i64 0] 69) hb1
 have cx:=hx.cell
 have fx:=hx.free
 have lx:=hx.lt
 have hw:=Bt (show Below w.heap.size w (w.alloc (.cells #[.int .i64 0,.int .i64 0] 69)) from belA) hb1
 go_wp2_with fail
 refine ret_ct rfl rfl boxA Tryz.underlying69 rfl zk ?_
 exact ⟨rfl,belA⟩
theorem Mul_ok (x y z t:Int) (w:World):Calls Tryz.prog 87 #[.agg #[.int .i64 x,.int .i64 y],.agg #[.int .i64 z,.int .i64 t]] w (fun e w'=>e= .returned (bndV (mulE (x,y) (z,t)))∧Below w.heap.size w w'):=by
 have H:Hid (∀ W b c d,Box W b #[.int .i64 x,.int .i64 y] 69→Box W c #[.int .i64 z,.int .i64 t] 69→Box W d #[.int .i64 x,.int .i64 y,.int .i64 z,.int .i64 t] 69→Calls Tryz.prog 142 #[.func (.func 143) #[] #[.pointer (some ⟨b,0,none⟩),.pointer (some ⟨c,0,none⟩)],.slice (some ⟨d,0,none⟩) 2 2] W (fun e w'=>e= .returned (bndV (mulE (x,y) (z,t)))∧Below W.heap.size W w')):=zh fun W b c d h1 h2 h3 =>
  checked_ok 143 #[.pointer (some ⟨b,0,none⟩),.pointer (some ⟨c,0,none⟩)] _ _ _ _ W (Bds.two h3) (fun h W' hW'=>Mul1_ok x y z t h b c W' (h1.later hW') (h2.later hW')) (fun args W=>by rfl)
 generalize mulE (x,y) (z,t)=m at *
 obtain ⟨⟨m1,m2⟩,m3⟩:=m
 unfold bndV at *
 simp only at *
 go_enter Tryz.func87,Tryz.ntmps87
 go_wp2_with fail
 obtain ⟨wx,EW,hz,X,Y,R,Z⟩:=al4 w #[.int .i64 x,.int .i64 y] 69 #[.int .i64 z,.int .i64 t] 69 #[.int .i64 0,.int .i64 0] 69 #[.int .i64 x,.int .i64 y,.int .i64 z,.int .i64 t] 69
 rw [EW]
 clear EW
 have HB:=zh hz
 clear hz
 refine (H.out _ _ _ _ X.out Y.out Z.out).mono ?_
 rintro e w1 ⟨rfl,hb1⟩
 replace R:=R.bl hb1
 replace HB:=zh (Bt HB.out hb1)
 clear hb1 H
 have hx:=R.out
 have cx:=hx.cell
 have fx:=hx.free
 have lx:=hx.lt
 have hw:=HB.out
 go_wp2_with fail
 refine ret_ct rfl rfl boxA Tryz.underlying69 rfl zk ?_
 exact ⟨rfl,belA⟩
end Go.Proofs.band
namespace Go.Fra
open Go Go.Num
theorem quo_mul (y q:Int) (hy:y≠0):quo (y*q) y=q:=by
 unfold quo Mem.sgd
 rw [Int.natAbs_mul,Nat.mul_div_cancel_left _ zo]
 rcases Int.lt_trichotomy q 0 with h|h|h
 ·rcases Int.lt_or_lt_of_ne hy with h'|h'
  ·have e1:¬ y*q<0:=by have:=Int.mul_pos_of_neg_of_neg h' h;omega
   simp [e1,h'];omega
  ·have e1:y*q<0:=Int.mul_neg_of_pos_of_neg h' h
   have e2:¬ y<0:=by omega
   simp [e1,e2];omega
 ·subst h
  simp
 ·rcases Int.lt_or_lt_of_ne hy with h'|h'
  ·have e1:y*q<0:=Int.mul_neg_of_neg_of_pos h' h
   simp [e1,h'];omega
  ·have e1:¬ y*q<0:=by have:=Int.mul_pos h' h;omega
   have e2:¬ y<0:=by omega
   simp [e1,e2];omega
theorem pick_spec {rs:IM} {k:Nat}:(∃ i,pick rs k=some i∧k≤i∧i<rs.length∧rs.at i k≠0)∨(pick rs k=none∧∀ j,k≤j→j<rs.length→rs.at j k=0):=by
 cases h:pick rs k with
 | some i =>
  left
  have h':=h
  unfold pick at h'
  rw [List.find?_range_eq_some] at h'
  obtain ⟨h1,h2,h3⟩:=h'
  simp at h1 h2
  exact ⟨i,rfl,h1.1,h2,h1.2⟩
 | none =>
  right
  have h':=h
  unfold pick at h'
  rw [List.find?_range_eq_none] at h'
  exact ⟨rfl,fun j hj hl=>by have:=h' j hl;simpa [hj] using this⟩
def Sh (rs:IM) (a b c:Nat→Int):Prop:=rs.length=3∧(∀ i,i<3→(rs.getD i []).length=6)∧∀ j,j<6→rs.at 0 j=a j∧rs.at 1 j=b j∧rs.at 2 j=c j
theorem Sh.congr {rs:IM} {a b c a' b' c':Nat→Int} (h:Sh rs a b c) (k:∀ j,j<6→a j=a' j∧b j=b' j∧c j=c' j):Sh rs a' b' c' :=
 ⟨h.1,h.2.1,fun j hj=>by obtain ⟨x,y,z⟩:=h.2.2 j hj;obtain ⟨x',y',z'⟩:=k j hj;exact ⟨x.trans x',y.trans y',z.trans z'⟩⟩
theorem Sh.swap {rs:IM} {a b c:Nat→Int} (h:Sh rs a b c) {i k:Nat} (hi:i<3) (hk:k<3) (j:Nat) (hj:j<3):(swapR rs i k).getD j []=rs.getD (if j=k then i else if j=i then k else j) []:=swapR_getD h.1 hi hk hj
def ShN (N:Nat) (rs:IM) (n:Nat) (F:Nat→Nat→Int):Prop:=rs.length=n∧(∀ i,i<n→(rs.getD i []).length=N)∧∀ i,i<n→∀ j,j<N→rs.at i j=F i j
def trp (a b i:Nat):Nat:=if i=b then a else if i=a then b else i
def clr (F:Nat→Nat→Int) (k:Nat) (p:Int) (i j:Nat):Int:=if i=k then F k j else quo (F k k*F i j+ -(F i k*F k j)) p
theorem ShN.congr {N n:Nat} {rs:IM} {F G:Nat→Nat→Int} (h:ShN N rs n F) (k:∀ i,i<n→∀ j,j<N→F i j=G i j):ShN N rs n G :=
 ⟨h.1,h.2.1,fun i hi j hj=>(h.2.2 i hi j hj).trans (k i hi j hj)⟩
theorem ShN.clear {N n:Nat} {rs:IM} {F:Nat→Nat→Int} (h:ShN N rs n F) {k:Nat} (hk:k<n) (hkN:k<N) (p:Int):ShN N (clearCol rs k p) n (clr F k p):=by
 obtain ⟨h1,h2,h3⟩:=h
 refine ⟨by rw [clearCol_length,h1],fun i hi=>?_,fun i hi j hj=>?_⟩
 ·rw [clearCol_getD zo]
  unfold clearRow
  split
  ·exact h2 i hi
  ·rw [comb_length];exact h2 i hi
 ·unfold IM.at
  rw [clearCol_getD zo]
  unfold clearRow clr
  by_cases e:i=k
  ·subst e
   rw [if_pos rfl,if_pos rfl]
   exact h3 i hi j hj
  ·rw [if_neg e,if_neg e,comb_getD (by rw [h2 i hi];exact hj)]
   unfold comb1
   have a:=h3 i hi j hj
   have b:=h3 i hi k hkN
   have c:=h3 k hk k hkN
   have d:=h3 k hk j hj
   unfold IM.at at a b c d
   rw [a,b,c,d]
theorem ShN.swap {N n:Nat} {rs:IM} {F:Nat→Nat→Int} (h:ShN N rs n F) {i k:Nat} (hi:i<n) (hk:k<n):ShN N (swapR rs i k) n (fun r j=>F (trp i k r) j):=by
 obtain ⟨h1,h2,h3⟩:=h
 have key:=fun j hj=>swapR_getD (j:=j) h1 hi hk hj
 have ht:∀ r,r<n→trp i k r<n:=fun r hr=>by unfold trp;split<;>(try split)<;>omega
 refine ⟨by simp [swapR,h1],fun j hj=>?_,fun r hr j hj=>?_⟩
 ·rw [key j hj]
  exact h2 _ (ht j hj)
 ·unfold IM.at
  rw [key r hr]
  exact h3 _ (ht r hr) j hj
theorem elim_some {m k i:Nat} {rs:IM} {p:Int} {t:Bool} (e:pick rs k=some i):elim (m+1) k rs p t=elim m (k+1) (clearCol (if i=k then rs else swapR rs i k) k p) ((if i=k then rs else swapR rs i k).at k k) (if i=k then t else !t):=by
 conv=>lhs;unfold elim
 rw [e]
theorem elim_none {m k:Nat} {rs:IM} {p:Int} {t:Bool} (e:pick rs k=none):elim (m+1) k rs p t=(0,false,rs):=by
 unfold elim
 rw [e]
theorem elim_step {N n k m:Nat} {rs:IM} {F:Nat→Nat→Int} (h:ShN N rs n F) (hk:k<n) (hN:k<N) (p:Int) (t:Bool) :
  (∃ i,k≤i∧i<n∧F i k≠0∧∃ rs',ShN N rs' n (fun r j=>F (trp i k r) j)∧elim (m+1) k rs p t=elim m (k+1) (clearCol rs' k p) (F i k) (if i=k then t else !t))∨((∀ i,k≤i→i<n→F i k=0)∧elim (m+1) k rs p t=(0,false,rs)):=by
 rcases pick_spec (rs:=rs) (k:=k) with ⟨i,e,h2,h3,h4⟩|⟨e,h2⟩
 ·have hi:i<n:=by rw [← h.1];exact h3
  rw [h.2.2 i hi k hN] at h4
  refine .inl ⟨i,h2,hi,h4,?_⟩
  rw [elim_some e]
  by_cases c:i=k
  ·subst c
   rw [if_pos rfl,if_pos rfl]
   refine ⟨rs,h.congr fun r hr j hj=>by unfold trp;split<;>(try split)<;>simp_all,?_⟩
   rw [h.2.2 i hi i hN]
  ·rw [if_neg c,if_neg c]
   refine ⟨_,h.swap hi hk,?_⟩
   have e2:=(h.swap hi hk).2.2 k hk k hN
   have e3:trp i k k=i:=by unfold trp;rw [if_pos rfl]
   rw [e2]
   simp only [e3]
 ·refine .inr ⟨fun i h5 h6=>?_,?_⟩
  ·rw [← h.2.2 i h6 k hN]
   exact h2 i h5 (by rw [h.1];exact h6)
  ·exact elim_none e
def D2 (U:Nat→Nat→Int) (r s a b:Nat):Int:=U r a*U s b - U s a*U r b
def D3 (U:Nat→Nat→Int) (r s q a b c:Nat):Int:=U r a*(U s b*U q c - U q b*U s c) - U r b*(U s a*U q c - U q a*U s c)+U r c*(U s a*U q b - U q a*U s b)
def D4 (U:Nat→Nat→Int) (a b c d:Nat):Int:=U 0 a*D3 U 1 2 3 b c d - U 0 b*D3 U 1 2 3 a c d+U 0 c*D3 U 1 2 3 a b d - U 0 d*D3 U 1 2 3 a b c
def dtn (n:Nat) (U:Nat→Nat→Int):Int:=if n=1 then U 0 0 else if n=2 then D2 U 0 1 0 1 else if n=3 then D3 U 0 1 2 0 1 2 else D4 U 0 1 2 3
def sm4 (n:Nat) (f:Nat→Int):Int:=if n=1 then f 0 else if n=2 then f 0+f 1 else if n=3 then f 0+f 1+f 2 else f 0+f 1+f 2+f 3
def EndN (N n:Nat) (U:Nat→Nat→Int) (t:Bool) (R:Int × Bool × IM):Prop :=
 (if R.2.1=t then R.1 else -R.1)=dtn n U∧(R.1≠0→∀ i,i<n→∀ j,j<N→sm4 n (fun k=>U i k*R.2.2.at k j)=R.1*U i j)
theorem dtn_trp {n:Nat} (hn:1≤n∧n≤4) {a b:Nat} (hab:b<a) (ha:a<n) (U:Nat→Nat→Int):dtn n (fun r j=>U (trp a b r) j)= -dtn n U:=by
 have hc:(n=2∧a=1∧b=0)∨(n=3∧((a=1∧b=0)∨(a=2∧b=0)∨(a=2∧b=1)))∨(n=4∧((a=1∧b=0)∨(a=2∧b=0)∨(a=2∧b=1)∨(a=3∧b=0)∨(a=3∧b=1)∨(a=3∧b=2))):=by omega
 rcases hc with ⟨rfl,rfl,rfl⟩|⟨rfl,⟨rfl,rfl⟩|⟨rfl,rfl⟩|⟨rfl,rfl⟩⟩|⟨rfl,⟨rfl,rfl⟩|⟨rfl,rfl⟩|⟨rfl,rfl⟩|⟨rfl,rfl⟩|⟨rfl,rfl⟩|⟨rfl,rfl⟩⟩ <;>
  (simp [dtn,D2,D3,D4,trp];try grind)
theorem EndN.swap {N n:Nat} (hn:1≤n∧n≤4) {U:Nat→Nat→Int} {t:Bool} {R:Int × Bool × IM} {a b:Nat} (hab:b≤a) (ha:a<n) (h:EndN N n (fun r j=>U (trp a b r) j) (if a=b then t else !t) R):EndN N n U t R:=by
 by_cases e:a=b
 ·subst e
  rw [if_pos rfl] at h
  have:(fun r j=>U (trp a a r) j)=U:=by
   funext r j
   unfold trp
   split<;>(try split)<;>simp_all
  rw [this] at h
  exact h
 ·rw [if_neg e] at h
  obtain ⟨h1,h2⟩:=h
  rw [dtn_trp hn zo ha] at h1
  refine ⟨?_,fun h0 i hi j hj=>?_⟩
  ·cases hr:R.2.1<;>cases t<;>simp [hr] at h1 ⊢<;>omega
  ·have ht:trp a b (trp a b i)=i:=by unfold trp;split<;>(try split)<;>(try split)<;>omega
   have:=h2 h0 (trp a b i) (by unfold trp;split<;>(try split)<;>omega) j hj
   simp only [ht] at this
   exact this
def stg (n k:Nat) (U:Nat→Nat→Int) (i j:Nat):Int :=
 if k=0 then U i j
 else if k=1 then (if i=0 then U 0 j else D2 U 0 i 0 j)
 else if k=2 then (if i=0 then D2 U 0 1 j 1 else if i=1 then D2 U 0 1 0 j else D3 U 0 1 i 0 1 j)
 else if k=3 then (if i=0 then D3 U 0 1 2 j 1 2 else if i=1 then D3 U 0 1 2 0 j 2 else if i=2 then D3 U 0 1 2 0 1 j else D4 U 0 1 2 j)
 else (if i=0 then D4 U j 1 2 3 else if i=1 then D4 U 0 j 2 3 else if i=2 then D4 U 0 1 j 3 else D4 U 0 1 2 j)
def pvt (k:Nat) (U:Nat→Nat→Int):Int:=if k=0 then 1 else if k=1 then U 0 0 else if k=2 then D2 U 0 1 0 1 else if k=3 then D3 U 0 1 2 0 1 2 else D4 U 0 1 2 3
theorem stg_clr {n k:Nat} (hk:k<n) (hn:n≤4) {U:Nat→Nat→Int} (hp:pvt k U≠0) {i j:Nat} (hi:i<n):clr (stg n k U) k (pvt k U) i j=stg n (k+1) U i j:=by
 have hc:k=0∨k=1∨k=2∨k=3:=by omega
 have hii:i=0∨i=1∨i=2∨i=3:=by omega
 unfold clr
 by_cases e:i=k
 ·rw [if_pos e]
  subst e
  rcases hc with rfl|rfl|rfl|rfl<;>(simp [stg];try (unfold D2;grind))
 ·rw [if_neg e,← quo_mul (pvt k U) (stg n (k+1) U i j) hp]
  congr 1
  rcases hc with rfl|rfl|rfl|rfl<;>rcases hii with rfl|rfl|rfl|rfl<;>first|(exact absurd rfl e)|(simp [stg,pvt,D2,D3,D4];try grind)
theorem stg_pvt {n k:Nat} (hk:k<n) (hn:n≤4) {U:Nat→Nat→Int}:stg n k U k k=pvt (k+1) U:=by
 have hc:k=0∨k=1∨k=2∨k=3:=by omega
 rcases hc with rfl|rfl|rfl|rfl<;>simp [stg,pvt]
theorem stg_trp {n k i:Nat} (hk:k≤i) (hi:i<n) (hn:n≤4) {U:Nat→Nat→Int} (r j:Nat) (hr:r<n):stg n k U (trp i k r) j=stg n k (fun r j=>U (trp i k r) j) r j:=by
 have hc:k=0∨k=1∨k=2∨k=3:=by omega
 have hii:i=0∨i=1∨i=2∨i=3:=by omega
 have hrr:r=0∨r=1∨r=2∨r=3:=by omega
 rcases hc with rfl|rfl|rfl|rfl<;>rcases hii with rfl|rfl|rfl|rfl<;>rcases hrr with rfl|rfl|rfl|rfl<;>first|omega|(simp [stg,trp,D2,D3,D4];done)|(simp [stg,trp,D2,D3,D4];grind)
theorem pvt_trp {n k i:Nat} (hk:k≤i) (hi:i<n) (hn:n≤4) {U:Nat→Nat→Int}:pvt k (fun r j=>U (trp i k r) j)=pvt k U:=by
 have hc:k=0∨k=1∨k=2∨k=3:=by omega
 have hii:i=0∨i=1∨i=2∨i=3:=by omega
 rcases hc with rfl|rfl|rfl|rfl<;>rcases hii with rfl|rfl|rfl|rfl<;>first|omega|simp [pvt,trp,D2,D3,D4]
theorem stg_zero {n k:Nat} (hk:k<n) (hn:n≤4) {U:Nat→Nat→Int} (hp:pvt k U≠0) (h:∀ i,k≤i→i<n→stg n k U i k=0):dtn n U=0:=by
 have key:pvt k U*dtn n U=0:=by
  have hc:k=0∨k=1∨k=2∨k=3:=by omega
  have hnn:n=1∨n=2∨n=3∨n=4:=by omega
  rcases hc with rfl|rfl|rfl|rfl<;>rcases hnn with rfl|rfl|rfl|rfl<;>first
   | omega
   | (have h3:=h 3 zo zo;have h2:=h 2;have h1:=h 1;have h0:=h 0;simp [stg,pvt,dtn,D2,D3,D4] at h0 h1 h2 h3 ⊢;grind)
   | (have h2:=h 2 zo zo;have h1:=h 1;have h0:=h 0;simp [stg,pvt,dtn,D2,D3,D4] at h0 h1 h2 ⊢;grind)
   | (have h1:=h 1 zo zo;have h0:=h 0;simp [stg,pvt,dtn,D2,D3,D4] at h0 h1 ⊢;grind)
   | (have h0:=h 0 zo zo;simp [stg,pvt,dtn,D2,D3,D4] at h0 ⊢;grind)
 rcases Int.mul_eq_zero.1 key with h|h
 ·exact absurd h hp
 ·exact h
theorem stg_end {n:Nat} (hn:1≤n∧n≤4) {U:Nat→Nat→Int} {i j:Nat} (hi:i<n):sm4 n (fun k=>U i k*stg n n U k j)=pvt n U*U i j:=by
 have hnn:n=1∨n=2∨n=3∨n=4:=by omega
 have hii:i=0∨i=1∨i=2∨i=3:=by omega
 rcases hnn with rfl|rfl|rfl|rfl<;>rcases hii with rfl|rfl|rfl|rfl<;>first|omega|(simp [sm4,stg,pvt,D2,D3,D4];try grind)
theorem pvt_end {n:Nat} (hn:1≤n∧n≤4) {U:Nat→Nat→Int}:pvt n U=dtn n U:=by
 have hnn:n=1∨n=2∨n=3∨n=4:=by omega
 rcases hnn with rfl|rfl|rfl|rfl<;>simp [pvt,dtn]
theorem elimN {N n:Nat} (hn:1≤n∧n≤4) (hN:n≤N):∀ (m k:Nat) (U:Nat→Nat→Int) (t:Bool) (rs:IM),k+m=n→ShN N rs n (stg n k U)→pvt k U≠0→EndN N n U t (elim m k rs (pvt k U) t)
 | 0,k,U,t,rs,hk,h,hp=>by
  obtain rfl:k=n:=by omega
  unfold elim
  refine ⟨by rw [if_pos rfl];exact pvt_end hn,fun _ i hi j hj=>?_⟩
  have e:sm4 k (fun r=>U i r*rs.at r j)=sm4 k (fun r=>U i r*stg k k U r j):=by
   have g:=fun r (hr:r<k)=>h.2.2 r hr j hj
   have hnn:k=1∨k=2∨k=3∨k=4:=by omega
   rcases hnn with rfl|rfl|rfl|rfl
   ·simp [sm4,g 0]
   ·simp [sm4,g 0,g 1]
   ·simp [sm4,g 0,g 1,g 2]
   ·simp [sm4,g 0,g 1,g 2,g 3]
  simp only
  rw [e,stg_end hn hi]
 | m+1,k,U,t,rs,hk,h,hp=>by
  rcases elim_step (m:=m) h (k:=k) zo zo (pvt k U) t with ⟨i,h1,h2,h3,rs',h4,h5⟩|⟨h1,h2⟩
  ·rw [h5]
   have h6:ShN N rs' n (stg n k (fun r j=>U (trp i k r) j)):=h4.congr fun r hr j hj=>stg_trp h1 h2 hn.2 r j hr
   have hp':pvt k (fun r j=>U (trp i k r) j)≠0:=by rw [pvt_trp h1 h2 hn.2];exact hp
   have h7:=h6.clear (by omega:k<n) zo (pvt k (fun r j=>U (trp i k r) j))
   have h8:ShN N (clearCol rs' k (pvt k U)) n (stg n (k+1) (fun r j=>U (trp i k r) j)):=by
    rw [pvt_trp h1 h2 hn.2] at h7
    refine h7.congr fun r hr j hj=>?_
    rw [← pvt_trp h1 h2 hn.2]
    exact stg_clr zo hn.2 hp' hr
   have e:stg n k U i k=pvt (k+1) (fun r j=>U (trp i k r) j):=by
    rw [← stg_pvt (n:=n) zo hn.2]
    have:=stg_trp (U:=U) h1 h2 hn.2 k k zo
    rw [← this]
    unfold trp
    rw [if_pos rfl]
   rw [e]
   refine EndN.swap hn h1 h2 (elimN hn hN m (k+1) _ _ _ zo h8 ?_)
   rw [← e]
   exact h3
  ·rw [h2]
   refine ⟨?_,fun h=>absurd rfl h⟩
   rw [stg_zero zo hn.2 hp h1]
   simp
def R2 (U:Nat→Nat→Rat) (r s a b:Nat):Rat:=U r a*U s b - U s a*U r b
def R3 (U:Nat→Nat→Rat) (r s q a b c:Nat):Rat:=U r a*(U s b*U q c - U q b*U s c) - U r b*(U s a*U q c - U q a*U s c)+U r c*(U s a*U q b - U q a*U s b)
def R4 (U:Nat→Nat→Rat) (a b c d:Nat):Rat:=U 0 a*R3 U 1 2 3 b c d - U 0 b*R3 U 1 2 3 a c d+U 0 c*R3 U 1 2 3 a b d - U 0 d*R3 U 1 2 3 a b c
def dR (n:Nat) (U:Nat→Nat→Rat):Rat:=if n=1 then U 0 0 else if n=2 then R2 U 0 1 0 1 else if n=3 then R3 U 0 1 2 0 1 2 else R4 U 0 1 2 3
def smR (n:Nat) (f:Nat→Rat):Rat:=if n=1 then f 0 else if n=2 then f 0+f 1 else if n=3 then f 0+f 1+f 2 else f 0+f 1+f 2+f 3
def dl (i j:Nat):Rat:=if i=j then 1 else 0
theorem smR_congr {n:Nat} (hn:1≤n∧n≤4) {f g:Nat→Rat} (h:∀ i,i<n→f i=g i):smR n f=smR n g:=by
 have hnn:n=1∨n=2∨n=3∨n=4:=by omega
 rcases hnn with rfl|rfl|rfl|rfl
 ·simp [smR,h 0]
 ·simp [smR,h 0,h 1]
 ·simp [smR,h 0,h 1,h 2]
 ·simp [smR,h 0,h 1,h 2,h 3]
theorem smR_mul {n:Nat} (hn:1≤n∧n≤4) (g:Nat→Rat) (s:Rat):smR n (fun k=>g k*s)=smR n g*s:=by
 have hnn:n=1∨n=2∨n=3∨n=4:=by omega
 rcases hnn with rfl|rfl|rfl|rfl<;>simp [smR,Rat.add_mul]
theorem dR_congr {n:Nat} (hn:1≤n∧n≤4) {f g:Nat→Nat→Rat} (h:∀ i,i<n→∀ j,j<n→f i j=g i j):dR n f=dR n g:=by
 have hnn:n=1∨n=2∨n=3∨n=4:=by omega
 rcases hnn with rfl|rfl|rfl|rfl<;>simp (disch:=omega) [dR,R2,R3,R4,h]
theorem sm4_cast {n:Nat} (hn:1≤n∧n≤4) (f:Nat→Int):((sm4 n f:Int):Rat)=smR n (fun i=>((f i:Int):Rat)):=by
 have hnn:n=1∨n=2∨n=3∨n=4:=by omega
 rcases hnn with rfl|rfl|rfl|rfl<;>simp [sm4,smR,Rat.intCast_add]
theorem dtn_cast {n:Nat} (hn:1≤n∧n≤4) {U:Nat→Nat→Int} {f:Nat→Nat→Rat} {D:Nat→Rat} (h:∀ i,i<n→∀ j,j<n→((U i j:Int):Rat)=f i j*D i) :
  ((dtn n U:Int):Rat)=dR n f*(if n=1 then D 0 else if n=2 then D 0*D 1 else if n=3 then D 0*D 1*D 2 else D 0*D 1*D 2*D 3):=by
 have hnn:n=1∨n=2∨n=3∨n=4:=by omega
 rcases hnn with rfl|rfl|rfl|rfl<;>simp (disch:=omega) [dtn,dR,D2,D3,D4,R2,R3,R4,Rat.intCast_add,Rat.intCast_sub,Rat.intCast_mul,h]<;>try grind
theorem cancelR {n:Nat} (hn:1≤n∧n≤4) {f:Nat→Nat→Rat} {y:Nat→Rat} (hd:dR n f≠0) (h:∀ i,i<n→smR n (fun l=>f i l*y l)=0):∀ k,k<n→y k=0:=by
 have hnn:n=1∨n=2∨n=3∨n=4:=by omega
 intro k hk
 have key:dR n f*y k=0:=by
  rcases hnn with rfl|rfl|rfl|rfl
  ·have h0:=h 0 zo
   obtain rfl:k=0:=by omega
   simp [smR,dR] at h0 ⊢
   grind
  ·have h0:=h 0 zo
   have h1:=h 1 zo
   have hkk:k=0∨k=1:=by omega
   simp [smR] at h0 h1
   rcases hkk with rfl|rfl
   ·have e:dR 2 f*y 0=(f 0 0*y 0+f 0 1*y 1)*f 1 1 - (f 1 0*y 0+f 1 1*y 1)*f 0 1:=by simp [dR,R2];grind
    rw [e,h0,h1];grind
   ·have e:dR 2 f*y 1=(f 1 0*y 0+f 1 1*y 1)*f 0 0 - (f 0 0*y 0+f 0 1*y 1)*f 1 0:=by simp [dR,R2];grind
    rw [e,h0,h1];grind
  ·have h0:=h 0 zo
   have h1:=h 1 zo
   have h2:=h 2 zo
   have hkk:k=0∨k=1∨k=2:=by omega
   simp [smR] at h0 h1 h2
   have e:dR 3 f*y k=R3 (fun i j=>if j=k then f i 0*y 0+f i 1*y 1+f i 2*y 2 else f i j) 0 1 2 0 1 2:=by
    rcases hkk with rfl|rfl|rfl<;>simp [dR,R3]<;>grind
   rw [e]
   rcases hkk with rfl|rfl|rfl<;>simp [R3,h0,h1,h2]<;>grind
  ·have h0:=h 0 zo
   have h1:=h 1 zo
   have h2:=h 2 zo
   have h3:=h 3 zo
   have hkk:k=0∨k=1∨k=2∨k=3:=by omega
   simp [smR] at h0 h1 h2 h3
   have e:dR 4 f*y k=R4 (fun i j=>if j=k then f i 0*y 0+f i 1*y 1+f i 2*y 2+f i 3*y 3 else f i j) 0 1 2 3:=by
    rcases hkk with rfl|rfl|rfl|rfl<;>simp [dR,R4,R3]<;>grind
   rw [e]
   rcases hkk with rfl|rfl|rfl|rfl<;>simp [R4,R3,h0,h1,h2,h3]<;>grind
 rcases Rat.mul_eq_zero.1 key with h|h
 ·exact absurd h hd
 ·exact h
theorem ShN_ext {n:Nat} {rs:IM} (h:rs.length=n):ShN (2*n) (ext rs) n (stg n 0 (fun i j=>if j<n then rs.at i j else if j=n+i then 1 else 0)):=by
 subst h
 refine ⟨by simp [ext],fun i hi=>?_,fun i hi j hj=>?_⟩
 ·simp [ext,hi]
 ·simp [ext,IM.at,hi,hj,stg]
theorem alg1 {f x r d c:Rat} (hd:d≠0) (hr:r≠0):f*(x*c / r)=f*d*x*(c / (d*r)):=by grind
theorem alg2 {r d:Rat} (hd:d≠0) (hr:r≠0):r*((1:Int):Rat)*(d / (d*r))=1:=by
 have:((1:Int):Rat)=1:=rfl
 rw [this]
 grind
theorem inv_rat {n:Nat} (hn:1≤n∧n≤4) {f:Nat→Nat→Rat} {D:Nat→Nat} (hD:∀ i,i<n→0<D i) {rs:IM} (hl:rs.length=n) (h:∀ i,i<n→∀ j,j<n→((rs.at i j:Int):Rat)=f i j*((D i:Nat):Rat)) {R:Int × Bool × IM} (hR:elim n 0 (ext rs) 1 false=R) :
  (R.1=0↔dR n f=0)∧(R.1≠0→∀ i,i<n→∀ c,c<n→smR n (fun k=>f i k*(((R.2.2.at k (n+c)*((D c:Nat):Int):Int):Rat) / ((R.1:Int):Rat)))=dl i c):=by
 have hE:=elimN hn (by omega:n≤2*n) n 0 _ false _ zo (ShN_ext hl) (by simp [pvt])
 rw [show pvt 0 (fun i j=>if j<n then rs.at i j else if j=n+i then 1 else 0)=1 by simp [pvt],hR] at hE
 have hDq:∀ i,i<n→((D i:Nat):Rat)≠0:=fun i hi=>by
  have:=hD i hi
  intro e
  have:D i=0:=by exact_mod_cast e
  omega
 obtain ⟨h1,h2⟩:=hE
 refine ⟨?_,fun h0 i hi c hc=>?_⟩
 ·have e:=dtn_cast hn (U:=fun i j=>if j<n then rs.at i j else if j=n+i then 1 else 0) (f:=f) (D:=fun i=>((D i:Nat):Rat)) (fun i hi j hj=>by simp [hj,h i hi j hj])
  rw [← h1] at e
  have hp:(if n=1 then ((D 0:Nat):Rat) else if n=2 then ((D 0:Nat):Rat)*((D 1:Nat):Rat) else if n=3 then ((D 0:Nat):Rat)*((D 1:Nat):Rat)*((D 2:Nat):Rat) else ((D 0:Nat):Rat)*((D 1:Nat):Rat)*((D 2:Nat):Rat)*((D 3:Nat):Rat))≠0:=by
   have hnn:n=1∨n=2∨n=3∨n=4:=by omega
   rcases hnn with rfl|rfl|rfl|rfl
   ·simpa using hDq 0 zo
   ·have:=hDq 0 zo
    have:=hDq 1 zo
    simp [Rat.mul_eq_zero, *]
   ·have:=hDq 0 zo
    have:=hDq 1 zo
    have:=hDq 2 zo
    simp [Rat.mul_eq_zero, *]
   ·have:=hDq 0 zo
    have:=hDq 1 zo
    have:=hDq 2 zo
    have:=hDq 3 zo
    simp [Rat.mul_eq_zero, *]
  constructor
  ·intro h
   have:dR n f*(if n=1 then ((D 0:Nat):Rat) else if n=2 then ((D 0:Nat):Rat)*((D 1:Nat):Rat) else if n=3 then ((D 0:Nat):Rat)*((D 1:Nat):Rat)*((D 2:Nat):Rat) else ((D 0:Nat):Rat)*((D 1:Nat):Rat)*((D 2:Nat):Rat)*((D 3:Nat):Rat))=0:=by
    rw [← e,h]
    split<;>simp
   rcases Rat.mul_eq_zero.1 this with h|h
   ·exact h
   ·exact absurd h hp
  ·intro h
   rw [h,Rat.zero_mul] at e
   have:(if R.2.1=false then R.1 else -R.1)=0:=by exact_mod_cast e
   split at this<;>omega
 ·have k:=h2 h0 i hi (n+c) zo
  have k':=congrArg (fun z:Int=>(z:Rat)) k
  simp only at k'
  rw [sm4_cast hn] at k'
  have hRq:((R.1:Int):Rat)≠0:=by
   intro e
   exact h0 (by exact_mod_cast e)
  have e1:smR n (fun k=>f i k*(((R.2.2.at k (n+c)*((D c:Nat):Int):Int):Rat) / ((R.1:Int):Rat)))=smR n (fun k=>((((if k<n then rs.at i k else if k=n+i then 1 else 0)*R.2.2.at k (n+c):Int):Int):Rat))*(((D c:Nat):Rat) / (((D i:Nat):Rat)*((R.1:Int):Rat))):=by
   have e2:∀ k,k<n→f i k*(((R.2.2.at k (n+c)*((D c:Nat):Int):Int):Rat) / ((R.1:Int):Rat))=((((if k<n then rs.at i k else if k=n+i then 1 else 0)*R.2.2.at k (n+c):Int):Int):Rat)*(((D c:Nat):Rat) / (((D i:Nat):Rat)*((R.1:Int):Rat))):=fun k hk=>by
    have hx:=h i hi k hk
    have hd:=hDq i hi
    rw [if_pos hk,Rat.intCast_mul,Rat.intCast_mul,hx,Rat.intCast_natCast]
    exact alg1 hd hRq
   rw [smR_congr hn e2,smR_mul hn]
  rw [e1,k']
  rw [if_neg zo]
  have hd:=hDq i hi
  unfold dl
  by_cases e:i=c
  ·subst e
   rw [if_pos rfl,if_pos rfl,Rat.intCast_mul]
   exact alg2 hd hRq
  ·rw [if_neg zo,if_neg e]
   simp
def prD (n:Nat) (D:Nat→Rat):Rat:=if n=1 then D 0 else if n=2 then D 0*D 1 else if n=3 then D 0*D 1*D 2 else D 0*D 1*D 2*D 3
theorem det_rat {n:Nat} (hn:1≤n∧n≤4) {f:Nat→Nat→Rat} {D:Nat→Nat} (hD:∀ i,i<n→0<D i) {rs:IM} (hl:rs.length=n) (hr:∀ i,i<n→(rs.getD i []).length=n) (h:∀ i,i<n→∀ j,j<n→((rs.at i j:Int):Rat)=f i j*((D i:Nat):Rat)) {R:Int × Bool × IM} (hR:elim n 0 rs 1 false=R) :
  (((if R.2.1 then -R.1 else R.1:Int):Int):Rat) / prD n (fun i=>((D i:Nat):Rat))=dR n f:=by
 have hE:=elimN hn (Nat.le_refl n) n 0 (fun i j=>rs.at i j) false rs zo ⟨hl,hr,fun i _ j _=>by simp [stg]⟩ (by simp [pvt])
 rw [show pvt 0 (fun i j=>rs.at i j)=1 by simp [pvt],hR] at hE
 have hDq:∀ i,i<n→((D i:Nat):Rat)≠0:=fun i hi=>by
  have:=hD i hi
  intro e
  have:D i=0:=by exact_mod_cast e
  omega
 have e:=dtn_cast hn (U:=fun i j=>rs.at i j) (f:=f) (D:=fun i=>((D i:Nat):Rat)) h
 have e1:(if R.2.1 then -R.1 else R.1:Int)=dtn n (fun i j=>rs.at i j):=by
  rw [← hE.1]
  cases R.2.1<;>simp
 rw [e1,e]
 have hp:prD n (fun i=>((D i:Nat):Rat))≠0:=by
  have hnn:n=1∨n=2∨n=3∨n=4:=by omega
  rcases hnn with rfl|rfl|rfl|rfl
  ·simpa [prD] using hDq 0 zo
  ·have:=hDq 0 zo
   have:=hDq 1 zo
   simp [prD,Rat.mul_eq_zero, *]
  ·have:=hDq 0 zo
   have:=hDq 1 zo
   have:=hDq 2 zo
   simp [prD,Rat.mul_eq_zero, *]
  ·have:=hDq 0 zo
   have:=hDq 1 zo
   have:=hDq 2 zo
   have:=hDq 3 zo
   simp [prD,Rat.mul_eq_zero, *]
 show dR n f*prD n (fun i=>((D i:Nat):Rat)) / prD n (fun i=>((D i:Nat):Rat))=dR n f
 generalize prD n (fun i=>((D i:Nat):Rat))=P at *
 generalize dR n f=d
 grind
theorem smR_swap {n:Nat} (hn:1≤n∧n≤4) (a:Nat→Rat) (b:Nat→Nat→Rat) (c:Nat→Rat):smR n (fun k=>a k*smR n (fun l=>b k l*c l))=smR n (fun l=>smR n (fun k=>a k*b k l)*c l):=by
 have hnn:n=1∨n=2∨n=3∨n=4:=by omega
 rcases hnn with rfl|rfl|rfl|rfl<;>simp [smR]<;>grind
theorem smR_dl {n:Nat} (hn:1≤n∧n≤4) {i:Nat} (hi:i<n) (x:Nat→Rat):smR n (fun l=>dl i l*x l)=x i:=by
 have hnn:n=1∨n=2∨n=3∨n=4:=by omega
 have hii:i=0∨i=1∨i=2∨i=3:=by omega
 rcases hnn with rfl|rfl|rfl|rfl<;>rcases hii with rfl|rfl|rfl|rfl<;>first|omega|(simp [smR,dl,Rat.zero_mul,Rat.one_mul,Rat.zero_add,Rat.add_zero])
theorem smR_dl2 {n:Nat} (hn:1≤n∧n≤4) {i:Nat} (hi:i<n) (x:Nat→Rat):smR n (fun l=>x l*dl l i)=x i:=by
 have:(fun l=>x l*dl l i)=fun l=>dl i l*x l:=by
  funext l
  unfold dl
  by_cases e:l=i
  ·subst e;rw [if_pos rfl,Rat.mul_comm]
  ·rw [if_neg e,if_neg (fun h=>e h.symm),Rat.mul_comm]
 rw [this,smR_dl hn hi]
theorem smR_sub {n:Nat} (hn:1≤n∧n≤4) (a b:Nat→Rat):smR n (fun k=>a k - b k)=smR n a - smR n b:=by
 have hnn:n=1∨n=2∨n=3∨n=4:=by omega
 rcases hnn with rfl|rfl|rfl|rfl<;>simp [smR]<;>grind
theorem left_inv {n:Nat} (hn:1≤n∧n≤4) {f g:Nat→Nat→Rat} (hd:dR n f≠0) (h:∀ i,i<n→∀ c,c<n→smR n (fun k=>f i k*g k c)=dl i c):∀ i,i<n→∀ c,c<n→smR n (fun k=>g i k*f k c)=dl i c:=by
 intro i hi c hc
 have:=cancelR hn (f:=f) (y:=fun k=>smR n (fun l=>g k l*f l c) - dl k c) hd (fun r hr=>by
  have e:(fun l=>f r l*(smR n (fun q=>g l q*f q c) - dl l c))=fun l=>f r l*smR n (fun q=>g l q*f q c) - f r l*dl l c:=by
   funext l
   grind
  rw [e,smR_sub hn,smR_swap hn,smR_dl2 hn hc]
  rw [smR_congr hn (g:=fun l=>dl r l*f l c) (fun l hl=>by rw [h r hr l hl]),smR_dl hn hr]
  grind) i hi
 grind
theorem R4_mul (f g:Nat→Nat→Rat):R4 (fun i j=>f i 0*g 0 j+f i 1*g 1 j+f i 2*g 2 j+f i 3*g 3 j) 0 1 2 3=R4 f 0 1 2 3*R4 g 0 1 2 3:=by
 unfold R4 R3
 grind
theorem dR_mul {n:Nat} (hn:1≤n∧n≤4) (f g:Nat→Nat→Rat):dR n (fun i j=>smR n (fun k=>f i k*g k j))=dR n f*dR n g:=by
 have hnn:n=1∨n=2∨n=3∨n=4:=by omega
 rcases hnn with rfl|rfl|rfl|rfl
 ·simp [dR,smR]
 ·simp [dR,smR,R2]
  grind
 ·simp [dR,smR,R3]
  grind
 ·have:=R4_mul f g
  simpa [dR,smR] using this
theorem dR_turn {n:Nat} (hn:1≤n∧n≤4) (f:Nat→Nat→Rat):dR n (fun i j=>f j i)=dR n f:=by
 have hnn:n=1∨n=2∨n=3∨n=4:=by omega
 rcases hnn with rfl|rfl|rfl|rfl<;>simp [dR,R2,R3,R4]<;>grind
end Go.Fra
