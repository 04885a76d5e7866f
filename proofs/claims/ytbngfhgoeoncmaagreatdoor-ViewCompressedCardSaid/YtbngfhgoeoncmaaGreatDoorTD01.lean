/- Lemmas for the proof. No condition. -/
import Derived.Test.YtbngfhgoeoncmaaGreatDoorTB43
import Derived.ChangeVars
set_option linter.unusedVariables false
set_option linter.unusedSimpArgs false
set_option maxRecDepth 100000
set_option maxHeartbeats 16000000
open Go.Ending renaming returned → ah
open Go.IntKind renaming i64 → I
open Go.Value renaming agg → aB, bool → aC, int → Z
open Nat renaming mod_eq_of_lt → gH
namespace Go.Proofs.verdigrislaw28
open Go.Proofs.iW Go Go.RowKit Go.SW Go.Num Go.Mem Go.Proofs Go.Dec Go.d9 Go.Fx Go.Proofs.view
theorem wS {x y:Int} (h:x=y) (h0: -9223372036854775808≤y) (h1:y≤9223372036854775807):Value.int .i64 (I.wrap x)= Z I y:=by subst h;exact Fx.wrap_i64 h0 h1
theorem Ap {a b c:Int × Int} (h:Dt a b=(c,0)):xP a b=(c,0):=by unfold xP cl;rw [h,if_pos rfl]
theorem Bl {fl x0 x1 y0 y1:Int} (b0:0≤fl) (b1:fl≤4294967295) (b2:0≤x0) (b3:x0≤4294967295) (b4:0≤x1) (b5:x1≤4294967295) (b6:0≤y0) (b7:y0≤4294967295) (b8:0≤y1) (b9:y1≤4294967295) (w:World) (ht:iA.Pow w) (he:whole.Er w) (hc:adapt.fM w) (hs:lF w) :
  Calls Tryz.prog 3 #[Z .u32 fl,aB #[Z .u32 x0,Z .u32 x1],aB #[Z .u32 y0,Z .u32 y1]] w (fun e w'=>e= ah (aC true)∧Below w.heap.size w w'):=by
 obtain ⟨F,eF⟩:∃ F,1+fl*1000=F:=⟨_,rfl⟩;obtain ⟨p1,e1⟩:∃ F,x0*100000=F:=⟨_,rfl⟩;obtain ⟨p2,e2⟩:∃ F,p1+x1=F:=⟨_,rfl⟩;obtain ⟨q1,e3⟩:∃ F,p2+y0*100000=F:=⟨_,rfl⟩;obtain ⟨q2,e4⟩:∃ F,q1+y1=F:=⟨_,rfl⟩;obtain ⟨⟨a1,a2⟩,⟨b1',b2'⟩,⟨c1,c2⟩,ea,eb,ec,h1,h2,h3,h4,h5,h6,h7,h8,h9⟩:=compressed (F:=F) (p1:=p1) (p2:=p2) (q1:=q1) (q2:=q2) zo zo zo zo zo zo zo;have C1:=fun W ht he=>fH (a:=F) (b:=F) (Ap ea) W ht he;have C2:=fun W ht he=>fH (a:=F) (b:=F) (Ap eb) W ht he;have C3:=fun W ht he=>fH (a:=F) (b:=F) (Ap ec) W ht he;simp only at h1 h2 h3 h4 h5 h6 h7 h8 h9;refine Fx.door Tryz.func3 rfl (.nil w []) ?_;refine Fx.new [] 4 #[Z .u32 x0,Z .u32 x1] 23 [] [] fun iK=>?_;refine Fx.new [] 5 #[Z .u32 y0,Z .u32 y1] 23 [] [] fun mM=>?_
 refine Fx.call [] 16 [] [] (fun W M=>EA _ (ht.later M.below) (he.later M.below) (hc.later M.below) (hs.later M.below)) ?_;refine Fx.part 10 [2] [(19,Z I (I.wrap fl))] [] ?_;refine Fx.qY (Z I (fl)) (Fx.wrap_i64 zo zo) ?_;refine Fx.part 1 [] [(20,Z I (I.wrap ((fl)*1000)))] [] ?_;refine Fx.qY (Z I ((fl)*1000)) (Fx.wrap_i64 zo zo) ?_;refine Fx.part 1 [] [(21,Z I (I.wrap (1+((fl)*1000))))] [] ?_;refine Fx.qY (Z I F) (wS eF zo zo) ?_;refine Fx.call [] 22 [] [] (fun W M=>fu F _) ?_;refine Fx.bH [] 7 26 [] [] fun qO=>?_;refine Fx.part 8 [5,3] [(25,Z I (I.wrap x0))] [(2,#[Z I F,Z I F])] ?_;refine Fx.qY (Z I (x0)) (Fx.wrap_i64 zo zo) ?_;refine Fx.part 1 [] [(26,Z I (I.wrap ((x0)*100000)))] [] ?_;refine Fx.qY (Z I p1) (wS e1 zo zo) ?_
 refine Fx.part 3 [3] [(29,Z I (I.wrap x0))] [] ?_;refine Fx.qY (Z I (x0)) (Fx.wrap_i64 zo zo) ?_;refine Fx.part 1 [] [(30,Z I (I.wrap ((x0)*100000)))] [] ?_;refine Fx.qY (Z I p1) (wS e1 zo zo) ?_;refine Fx.part 3 [3] [(33,Z I (I.wrap x1))] [] ?_;refine Fx.qY (Z I (x1)) (Fx.wrap_i64 zo zo) ?_;refine Fx.part 1 [] [(34,Z I (I.wrap (p1+(x1))))] [] ?_;refine Fx.qY (Z I p2) (wS e2 zo zo) ?_;refine Fx.bH [] 8 26 [(35,aB #[Z I p1,Z I p2])] [] fun QC=>?_;refine Fx.part 10 [6,6,4] [(40,Z I (I.wrap y0)),(37,Z I p2)] [(3,#[Z I p1,Z I p2])] ?_;refine Fx.qY (Z I (y0)) (Fx.wrap_i64 zo zo) ?_;refine Fx.part 1 [] [(41,Z I (I.wrap ((y0)*100000)))] [] ?_;refine Fx.qY (Z I ((y0)*100000)) (Fx.wrap_i64 zo zo) ?_
 refine Fx.part 1 [] [(42,Z I (I.wrap (p2+((y0)*100000))))] [] ?_;refine Fx.qY (Z I q1) (wS e3 zo zo) ?_;refine Fx.part 5 [6,4] [(47,Z I (I.wrap y0)),(44,Z I p2)] [] ?_;refine Fx.qY (Z I (y0)) (Fx.wrap_i64 zo zo) ?_;refine Fx.part 1 [] [(48,Z I (I.wrap ((y0)*100000)))] [] ?_;refine Fx.qY (Z I ((y0)*100000)) (Fx.wrap_i64 zo zo) ?_;refine Fx.part 1 [] [(49,Z I (I.wrap (p2+((y0)*100000))))] [] ?_;refine Fx.qY (Z I q1) (wS e3 zo zo) ?_;refine Fx.part 3 [4] [(52,Z I (I.wrap y1))] [] ?_;refine Fx.qY (Z I (y1)) (Fx.wrap_i64 zo zo) ?_;refine Fx.part 1 [] [(53,Z I (I.wrap (q1+(y1))))] [] ?_;refine Fx.qY (Z I q2) (wS e4 zo zo) ?_;refine Fx.bH [] 9 26 [(54,aB #[Z I q1,Z I q2])] [] fun TR=>?_
 refine Fx.call [7,5,6] 58 [] [(4,#[Z I q1,Z I q2])] (fun W M=>C1 _ (ht.later M.below) (he.later M.below)) ?_;refine Fx.bH [] 10 26 [(59,aB #[Z I a1,Z I a2]),(60,Z I 0)] [] fun Av=>?_;refine Fx.call [8,5,7] 64 [(11,Z I 0)] [(5,#[Z I a1,Z I a2])] (fun W M=>C2 _ (ht.later M.below) (he.later M.below)) ?_;refine Fx.bH [] 12 26 [(65,aB #[Z I (b1'),Z I (b2')]),(66,Z I 0)] [] fun Rk=>?_;refine Fx.call [9,5,6,7] 74 [(13,Z I 0)] [(6,#[Z I (b1'),Z I (b2')])] (fun W M=>C3 _ (ht.later M.below) (he.later M.below)) ?_;refine Fx.bH [] 14 26 [(75,aB #[Z I c1,Z I c2]),(76,Z I 0)] [] fun YN=>?_;refine Fx.part 27 [10,2,8] [(107,aC (decide (0≤a1)))] [(7,#[Z I c1,Z I c2])] ?_;refine Fx.CB true (decide_eq_true h1) ?_
 refine Fx.part 4 [9] [(111,aC (decide ((b2')<400000000000000))),(108,aC true)] [] ?_;refine Fx.CB true (decide_eq_true h2) ?_;refine Fx.part 7 [8,9] [(118,aC (decide (a1≤(b2')))),(113,aC true)] [] ?_;refine Fx.CB true (decide_eq_true h3) ?_;refine Fx.part 7 [10,8] [(125,aC (decide (c1≤a1))),(120,aC true)] [] ?_;refine Fx.CB true (decide_eq_true h4) ?_;refine Fx.part 7 [10,9] [(132,aC (decide ((b2')≤c2))),(127,aC true)] [] ?_;refine Fx.CB true (decide_eq_true h5) ?_;refine Fx.part 7 [10,9] [(139,aC (decide (c1≤(b1')))),(134,aC true)] [] ?_;refine Fx.CB true (decide_eq_true h6) ?_;refine Fx.part 7 [10,8] [(146,aC (decide (a2≤c2))),(141,aC true)] [] ?_;refine Fx.CB true (decide_eq_true h7) ?_;refine Fx.part 7 [8,8] [(153,aC (decide (a1≤a2))),(148,aC true)] [] ?_;refine Fx.CB true (decide_eq_true h8) ?_
 refine Fx.part 7 [9,9] [(160,aC (decide ((b1')≤(b2')))),(155,aC true)] [] ?_;refine Fx.CB true (decide_eq_true h9) ?_;exact Fx.xE [] [] (fun W M=>⟨rfl,M.below⟩)
end Go.Proofs.verdigrislaw28
namespace Go.Proofs.YtbngfhgoeoncmaaGreatDoor
open Go Go.ChangeShapes Go.WideShapes Go.RowKit Go.Proofs
theorem vg {P:Program} {w:World} {r:Reach} {b:Nat} {u:TypeId} {k:IntKind} {v:Value} (hu:P.underlying u=some (.int k)) (h:Cell.okWide P w r b u v):∃ n,v= .int k n∧k.has n:=by
 unfold Cell.okWide at h;simp only [hu] at h;unfold Cell.ok at h;simp only [hu] at h;cases v<;>simp at h
 obtain ⟨rfl,h⟩:=h;exact ⟨_,rfl,h⟩
theorem UF {α:Type} {l:List α} (h:l.length=2):∃ x0 x1,l=[x0,x1]:=by
 match l,h with
 | [x0,x1],_=>exact ⟨x0,x1,rfl⟩
theorem BZ {P:Program} {w:World} {r:Reach} {b:Nat} {T:TypeId} {d:TypeDesc} {ts:List TypeId} {v:Value} (hu:P.underlying T=some d) (hd:(match d with| .struct _| .array _ _=>true| _=>false)=true)
  {n:Nat} (hc:P.cellTypes P.depth T=some ts) (hn:P.cellsOf T=n) (hl:ts.length=n) (h:Value.okWide P w r b T v):∃ l:List Value,v= aB ⟨l⟩∧l.length=n∧∀ (i:Nat) x u,l[i]? =some x→ts[i]? =some u→Cell.okWide P w r b u x:=by
 have h':∃ cs,v= aB cs∧cs.size=P.cellsOf T∧Row.okWide P w r b T cs:=by
  unfold Value.okWide at h;rw [hu] at h;cases d<;>simp at hd<;>exact h
 obtain ⟨⟨l⟩,rfl,hs,ts',ht, -, hx⟩:=h';rw [hc] at ht;cases ht
 refine ⟨l,rfl,by rw [← hn];exact hs,fun i x u hi hui=>?_⟩;obtain ⟨u',h1,h2⟩:=hx i x (by simpa using hi);have hlt:i<ts.length:=(List.getElem?_eq_some_iff.1 hui).1;rw [gH hlt,hui] at h1;cases h1
 exact h2
theorem yc {n:Int} (h:IntKind.u32.has n):0≤n∧n≤4294967295:=by
 simpa [IntKind.has,IntKind.min,IntKind.max,IntKind.signed,IntKind.bits] using h
theorem FK:laidOutB Tryz.prog=true:=by kernel_rfl
end Go.Proofs.YtbngfhgoeoncmaaGreatDoor
