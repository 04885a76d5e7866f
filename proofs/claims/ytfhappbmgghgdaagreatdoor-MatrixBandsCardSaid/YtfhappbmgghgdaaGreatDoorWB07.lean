/- Lemmas for the proof. No condition. -/
import Derived.Test.YtfhappbmgghgdaaGreatDoorWB01
import Derived.Test.YtfhappbmgghgdaaGreatDoorWB03
import Derived.Test.YtfhappbmgghgdaaGreatDoorWB06
import Derived.Test.YtfhappbmgghgdaaGreatDoorRows
import Derived.ProofKit
import Derived.LaidMore
import Derived.OpenShut
import Derived.Stop.Joined
import Derived.Stop.LaidErr
import Derived.Lib.LaidTab
import Derived.ChangeSame
import Derived.Laws.IdiomArrays
set_option linter.unusedVariables false
set_option linter.unusedSimpArgs false
set_option maxRecDepth 100000
set_option maxHeartbeats 16000000
namespace Go.Proofs.dJ
open Go Go.RowKit Go.SW Go.Num Go.Mem Go.Proofs Go.Dec Go.cK
theorem Vp (z:Int) {E:Nat} (hE:0<E) (hz:z.natAbs<9223372036854775809) (hE2:E<9223372036854775809) :
  ∃ s t,Fr.res (Vk z (E:Int))= .tuple #[.agg #[.string s,.string t],.int .i64 0]∧rd ⟨s,t⟩=some ((z:Rat) / ((E:Nat):Rat)):=by
 have hk:iR ((z:Rat) / ((E:Nat):Rat))=true:=by
  rw [← Rat.mkRat_eq_div];have hp:=qI z hE;have ht:9223372036854775809≤iE 600:=by unfold iE;decide+kernel
  unfold iR DI;rw [Bool.and_eq_true];refine ⟨decide_eq_true ?_,decide_eq_true ?_⟩
  ·rw [hp.1,fF];have:=Nat.div_le_self z.natAbs (z.natAbs.gcd E);omega
  ·rw [hp.2];have:=Nat.div_le_self E (z.natAbs.gcd E);omega
 refine ⟨(Fr.of ((z:Rat) / ((E:Nat):Rat))).n,(Fr.of ((z:Rat) / ((E:Nat):Rat))).d,?_,Ql hk⟩;unfold Vk wr;rw [if_neg zo,Rat.intCast_natCast,if_pos hk];rfl
theorem ax7 (o:Int):∃ m:Int,(m=if o<0 then o else 0)∧(∀ (ts:Array TypeId) (t:TypeId) (W:World),(Builtin.min_ ts t #[.int .i64 o,.int .i64 0]).run Tryz.prog W= .ok (.int .i64 m) W):=by
 by_cases h:o<0
 ·refine ⟨o,by rw [if_pos h],fun ts t W=>?_⟩;have h1:¬ (0:Int)<o:=by omega
  rw [run_min_int2];simp [h1]
 ·refine ⟨0,by rw [if_neg h],fun ts t W=>?_⟩;rw [run_min_int2]
  by_cases h1:(0:Int)<o
  ·simp [h1]
  ·obtain rfl:o=0:=by omega
   simp
theorem ax8 (o:Int):∃ m:Int,(m=if 0<o then o else 0)∧(∀ (ts:Array TypeId) (t:TypeId) (W:World),(Builtin.max_ ts t #[.int .i64 o,.int .i64 0]).run Tryz.prog W= .ok (.int .i64 m) W):=by
 by_cases h:0<o
 ·refine ⟨o,by rw [if_pos h],fun ts t W=>?_⟩;have h1:¬ o<(0:Int):=by omega
  rw [run_max_int2];simp [h1]
 ·refine ⟨0,by rw [if_neg h],fun ts t W=>?_⟩;rw [run_max_int2]
  by_cases h1:o<(0:Int)
  ·simp [h1]
  ·obtain rfl:o=0:=by omega
   simp
theorem AV (s t:ByteArray) (k:Int) (hk:¬ k=0) (w:World) (HN:Hid (∀ W,Below w.heap.size w W→Calls Tryz.prog 139 #[.agg #[.string s,.string t],.int .i64 1000000000000] W (fun e w'=>e= .returned (.tuple #[.int .i64 0,.int .i64 k])∧Below W.heap.size W w'))) :
  Calls Tryz.prog 86 #[.agg #[.string s,.string t]] w (fun e w'=>e= .returned (dV ((0,0),k))∧Below w.heap.size w w'):=by
 unfold dV;have hk0:decide (k=0)=false:=decide_eq_false hk;go_enter Tryz.func86,Tryz.ntmps86
 go_wp2_with fail
 refine (HN.out _ ah).mono ?_;rintro e v1 ⟨rfl,hc1⟩;have BR:=au.later (au.oN _ _ _ _) hc1;have bK:=BR.cell;have bL:=BR.free;have eG:=BR.lt;go_wp2_with fail
 refine aP rfl rfl aT Tryz.underlying69 rfl zk ?_;exact ⟨rfl,ah⟩
theorem Iz (s t s1 t1:ByteArray) (z o:Int) (w:World) (ho: -1≤o∧o≤1) (HN:Hid (∀ W,Below w.heap.size w W→Calls Tryz.prog 139 #[.agg #[.string s,.string t],.int .i64 1000000000000] W (fun e w'=>e= .returned (.tuple #[.int .i64 z,.int .i64 0])∧Below W.heap.size W w')))
  (HO:Hid (∀ W,Below w.heap.size w W→Calls Tryz.prog 140 #[.int .i64 z,.int .i64 1000000000000] W (fun e w'=>e= .returned (.tuple #[.agg #[.string s1,.string t1],.int .i64 0])∧Below W.heap.size W w')))
  (HC:Hid (∀ W,Calls Tryz.prog 100 #[.agg #[.string s,.string t],.agg #[.string s1,.string t1]] W (fun e w'=>e= .returned (.tuple #[.int .i64 o,.int .i64 0])∧Below W.heap.size W w'))) :
  Calls Tryz.prog 86 #[.agg #[.string s,.string t]] w (fun e w'=>e= .returned (dV (if gV z z then gF (z+(if o<0 then -1 else 0)) (z+(if 0<o then 1 else 0)) else ((0,0),6)))∧Below w.heap.size w w'):=by
 have HV:=zh (fun W=>uh z z W);cases hb:gV z z with
 | false =>
  rw [if_neg zi];unfold dV;rw [hb] at HV;clear hb ho;go_enter Tryz.func86,Tryz.ntmps86
  go_wp2_with fail
  refine (HN.out _ ah).mono ?_;rintro e v1 ⟨rfl,hc1⟩;have BR:=au.later (au.oN _ _ _ _) hc1;have bK:=BR.cell;have bL:=BR.free;have eG:=BR.lt;have B0:=au.later (au.alloc (au.new _ _ _) _) hc1;have cB0:=B0.cell;have jc:=B0.free;have lB0:=B0.lt;go_wp2_with fail
  refine (HO.out _ ah).mono ?_;rintro e v2 ⟨rfl,hc2⟩;replace BR:=au.later (BR) hc2;replace bK:=BR.cell;replace bL:=BR.free;replace eG:=BR.lt;replace B0:=au.later (B0) hc2;replace cB0:=B0.cell;replace jc:=B0.free;replace lB0:=B0.lt;go_wp2_with fail
  refine (HC.out _).mono ?_;rintro e v3 ⟨rfl,hc3⟩;replace BR:au _ (w.heap.size+1) _ _:=au.later aT hc3;(try simp only [List.setIfInBounds_toArray,List.set_cons_zero,List.set_cons_succ] at BR);replace bK:=BR.cell;replace bL:=BR.free;replace eG:=BR.lt;go_wp2_with fail
  refine (HV.out _).mono ?_;rintro e v4 ⟨rfl,hc4⟩;replace BR:=au.later (BR) hc4;replace bK:=BR.cell;replace bL:=BR.free;replace eG:=BR.lt;go_wp2_with fail
  refine aP rfl rfl aT Tryz.underlying69 rfl zk ?_;exact ⟨rfl,ah⟩
 | true =>
  rw [if_pos rfl];rw [hb] at HV;obtain ⟨l,hl,hmin⟩:=ax7 o;obtain ⟨m,hm,hmax⟩:=ax8 o;have el:(if o<0 then (-1:Int) else 0)=l:=by rw [hl];by_cases h:o<0<;>simp only [if_pos,if_neg,h,if_true,if_false]<;>omega
  have em:(if 0<o then (1:Int) else 0)=m:=by rw [hm];by_cases h:0<o<;>simp only [if_pos,if_neg,h,if_true,if_false]<;>omega
  rw [el,em]
  have hr: -1000000000000000000≤z∧z≤1000000000000000000:=by
   unfold gV at hb;simp only [Bool.and_eq_true,decide_eq_true_eq] at hb;omega
  have hl2: -1≤l∧l≤0:=by rw [← el];by_cases h:o<0<;>simp [h]
  have hm2:0≤m∧m≤1:=by rw [← em];by_cases h:0<o<;>simp [h]
  have w1:IntKind.i64.wrap (z+l)=z+l:=by simp [IntKind.wrap,IntKind.bits,IntKind.signed];omega
  have w2:IntKind.i64.wrap (z+m)=z+m:=by simp [IntKind.wrap,IntKind.bits,IntKind.signed];omega
  have HM:=zh (fun W=>kr (z+l) (z+m) W);clear hb ho hl hm el em hr hl2 hm2;generalize gF (z+l) (z+m)=x at *;obtain ⟨⟨x1,x2⟩,x3⟩:=x;unfold dV at *;simp only at *;go_enter Tryz.func86,Tryz.ntmps86
  go_wp2_with fail
  refine (HN.out _ ah).mono ?_;rintro e v1 ⟨rfl,hc1⟩;have BR:=au.later (au.oN _ _ _ _) hc1;have bK:=BR.cell;have bL:=BR.free;have eG:=BR.lt;have B0:=au.later (au.alloc (au.new _ _ _) _) hc1;have cB0:=B0.cell;have jc:=B0.free;have lB0:=B0.lt;go_wp2_with fail
  refine (HO.out _ ah).mono ?_;rintro e v2 ⟨rfl,hc2⟩;replace BR:=au.later (BR) hc2;replace bK:=BR.cell;replace bL:=BR.free;replace eG:=BR.lt;replace B0:=au.later (B0) hc2;replace cB0:=B0.cell;replace jc:=B0.free;replace lB0:=B0.lt;go_wp2_with fail
  refine (HC.out _).mono ?_;rintro e v3 ⟨rfl,hc3⟩;replace BR:au _ (w.heap.size+1) _ _:=au.later aT hc3;(try simp only [List.setIfInBounds_toArray,List.set_cons_zero,List.set_cons_succ] at BR);replace bK:=BR.cell;replace bL:=BR.free;replace eG:=BR.lt;go_wp2_with fail
  refine (HV.out _).mono ?_;rintro e v4 ⟨rfl,hc4⟩;replace BR:=au.later (BR) hc4;replace bK:=BR.cell;replace bL:=BR.free;replace eG:=BR.lt;go_wp2_with fail
  refine (HM.out _).mono ?_;rintro e v5 ⟨rfl,nT⟩;replace BR:=au.later (BR) nT;replace bK:=BR.cell;replace bL:=BR.free;replace eG:=BR.lt;go_wp2_with fail
  refine aP rfl rfl aT Tryz.underlying69 rfl zk ?_;exact ⟨rfl,ah⟩
def fJ (a:Fr):(Int × Int) × Int:=match rd a with
 | some q=>gF (ow (q.num*1000000000000) q.den false) (ow (q.num*1000000000000) q.den true)
 | none=>((0,0),20)
theorem wS (a:Fr) (w:World) (ht:oO.Pow w) (he:whole.Er w) :
  Calls Tryz.prog 86 #[a.v] w (fun e w'=>e= .returned (dV (fJ a))∧Below w.heap.size w w'):=by
 obtain ⟨s,t⟩:=a
 show Calls _ _ #[.agg #[.string s,.string t]] _ _
 unfold fJ;cases h:rd ⟨s,t⟩ with
 | none=>exact AV s t 20 zo w (zh fun W _=>eX.OP s t 1000000000000 h W)
 | some q =>
  have hd:0<q.den:=q.den_pos;simp only;rw [← ab5 _ hd];have hn:∀ W,Below w.heap.size w W→ _:=fun W hW=>eX.OO s t 1000000000000 q h zo zo W (ht.later hW) (he.later hW);have e1:((1000000000000:Nat):Int)=1000000000000:=rfl;rw [e1] at hn;unfold arE;unfold eX.DW at hn;generalize hz:gD (q.num*1000000000000) q.den=z at *
  by_cases c: -9223372036854775808≤z∧z<9223372036854775808
  ·rw [if_pos c];rw [decide_eq_true c,if_pos rfl] at hn;obtain ⟨s1,t1,hof,hrd⟩:=Vp z (E:=1000000000000) zo zo zo;rw [e1] at hof;have hc:=fun W=>eX.ac8 ⟨s,t⟩ ⟨s1,t1⟩ W;have hce:Ou ⟨s,t⟩ ⟨s1,t1⟩=(Aw q ((z:Rat) / ((1000000000000:Nat):Rat)),0):=by unfold Ou;rw [h,hrd]
   rw [hce,Ot q z zo,e1] at hc;have ao1:∀ W,Below w.heap.size w W→ _:=fun W hW=>eX.au2 z 1000000000000 zo zo zo zo W (ht.later hW);rw [hof] at ao1;refine (Iz s t s1 t1 z _ w ?_ (zh hn) (zh ao1) (zh hc)).mono ?_
   ·split
    ·omega
    ·split<;>omega
   ·rintro e w1 ⟨rfl,hb⟩;refine ⟨?_,hb⟩
    congr 2
    by_cases h1:q.num*1000000000000<z*(q.den:Int)
    ·have h2:¬ z*(q.den:Int)<q.num*1000000000000:=by omega
     simp [h1,h2]
    ·by_cases h2:z*(q.den:Int)<q.num*1000000000000
     ·simp [h1,h2]
     ·simp [h1,h2]
  ·rw [if_neg c];rw [decide_eq_false c,if_neg zi] at hn;exact AV s t 6 zo w (zh hn)
end Go.Proofs.dJ
namespace Go.Proofs.YtfhappbmgghgdaaGreatDoor
open Go Go.ChangeShapes Go.WideShapes Go.RowKit Go.Proofs
theorem aB3 : Tryz.prog.globalNamed "internal/strconv.uint64pow10" = some 3 := by kernel_rfl
theorem aw4:(Tryz.prog.globals[3]?).map (·.type)=some 324:=by kernel_rfl
theorem aw3:Tryz.prog.underlying 324=some (.array 20 192):=by kernel_rfl
theorem aa1 : Tryz.prog.globalNamed "strconv.ErrRange" = some 5 := by kernel_rfl
theorem aw5:(Tryz.prog.globals[5]?).map (·.type)=some 177:=by kernel_rfl
theorem sErr : "*" ++ "errors.errorString" = "*errors.errorString" := by decide
theorem aw7 (u : TypeId) (h : Tryz.prog.typeName? 3 u = some "*errors.errorString") : u = 334 :=
 typeName_ptr_named (nm := "errors.errorString") (by rw [sErr]; kernel_rfl) zk zd u (by rw [sErr]; exact h)
theorem of_laid {W:World} (h:laidMetH Tryz.prog Rows.matrixKnownRow.laid W):oO.Pow W∧whole.Er W:=by
 have h' : laidMetH Tryz.prog [("math/bits.deBruijn32tab", Rows.laid_math_bits_deBruijn32tab), ("math/bits.deBruijn64tab", Rows.laid_math_bits_deBruijn64tab), ("internal/strconv.uint64pow10", Rows.laid_internal_strconv_uint64pow10), ("strconv.ErrRange", Rows.laid_strconv_ErrRange), ("strconv.ErrSyntax", Rows.laid_strconv_ErrSyntax)] W := h
 clear h;rw [MakeChecks.laidMetH_plain _ _ _ zk] at h';have h2:=laidMet.tail (laidMet.tail h');refine ⟨Lib.tabIs_of_head aB3 aw4 aw3 zk zk zk h2,?_⟩;obtain ⟨a,s,hv, -⟩:=laid_sentinel (laidMet.tail h2) aa1 aw5 Tryz.underlying177 aw7 Tryz.underlying334 Tryz.underlying336 rfl rfl Tryz.underlying9 zk zk;refine ⟨_,_,hv,?_⟩;have hc:=World.var?_cell aa1 hv 0
 have e : (Tryz.prog.globalNamed "strconv.ErrRange").getD 0 = 5 := by rw [aa1]; rfl
 rw [e]
 rcases Nat.lt_or_ge 5 W.heap.size with h|h
 ·exact h
 ·unfold World.cell? at hc;rw [Array.getElem?_eq_none h] at hc;simp at hc
theorem Xr {n:Int} (h:(Lit.int .u8 n).wf=true):0≤n∧n≤255:=by
 simp [Lit.wf,IntKind.min,IntKind.max,IntKind.signed,IntKind.bits] at h
 omega
theorem YO {n:Int} (h:(Lit.int .u32 n).wf=true):0≤n∧n≤4294967295:=by
 simp [Lit.wf,IntKind.min,IntKind.max,IntKind.signed,IntKind.bits] at h
 omega
end Go.Proofs.YtfhappbmgghgdaaGreatDoor
