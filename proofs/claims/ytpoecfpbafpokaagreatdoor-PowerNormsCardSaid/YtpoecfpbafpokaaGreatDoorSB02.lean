/- Lemmas for the proof. No condition. -/
import Derived.Test.YtpoecfpbafpokaaGreatDoorSB01
import Derived.Test.YtpoecfpbafpokaaGreatDoorProg
import Derived.Shelf.Strings.Builder1
import Derived.Shelf.LaysM
import Derived.Shelf.Strconv.Itoa3
import Derived.Shelf.Strconv.Clone
import Derived.Shelf.Strconv.SyntaxError
import Derived.Shelf.LaysC
import Derived.Shelf.Strconv.ToError
import Derived.Shelf.Strconv.Lower
import Derived.Shelf.Strconv.RangeError
import Derived.Shelf.Strconv.ToErrorRange
import Derived.Shelf.Bits.Mul64
import Derived.Shelf.Strings.Repeat
import Derived.Lib.AppendStr
import Derived.Lib.Builder
import Derived.Lib.AppendIntMem
import Derived.Shelf.Strconv.ParseUint10
import Derived.Shelf.Strconv.ParseUint10Any
import Derived.Shelf.Strconv.ParseInt10
import Derived.Shelf.Strconv.ParseUint10b64
import Derived.Shelf.Strconv.ParseUint10At
import Derived.Shelf.Strconv.ParseInt10At64
import Derived.Shelf.Strconv.ParseInt10All
import Derived.Shelf.Strconv.ParseIntPublic10
import Derived.KernelRfl
import Derived.WalkMore
import Derived.Deep.RegionHeld
import Derived.RangeFuncBox
import Derived.RangeFuncLeaves
import Derived.RangeFuncFrom
import Derived.RangeFuncNested
import Derived.RangeFuncBound
import Derived.RangeFuncCalls
import Derived.Shelf.Abstract
import Derived.WalkKit
import Derived.OwnWalkIn
import Derived.TacticsInMore
import Derived.LoopNIn
import Derived.LoopIn
import Derived.ControlIn
set_option linter.unusedVariables false
set_option linter.unusedSimpArgs false
set_option maxRecDepth 100000
set_option maxHeartbeats 16000000
namespace Go.Proofs
open Go.Shelf
def Tryz.lays169_ren : Go.Shelf.Ren := ⟨fun | 169 => 166 | n => n, fun | 70 => 207 | 9 => 9 | 0 => 0 | 72 => 210 | 37 => 208 | 127 => 241 | 3 => 3 | 5 => 5 | n => n, fun | n => n⟩
theorem Tryz.lays169 : Go.Proofs.Lays.n169 Tryz.prog Tryz.lays169_ren := {
  mixed := by kernel_rfl
  f169 := Tryz.func166.trans (congrArg some zk)
  t0 := Tryz.underlying0
  a0 := Tryz.isAgg0
  z0 := Tryz.sizeOf0
  v0 := Tryz.zeroValue0
  t3 := Tryz.underlying3
  a3 := Tryz.isAgg3
  z3 := Tryz.sizeOf3
  v3 := Tryz.zeroValue3
  t9 := Tryz.underlying9
  a9 := Tryz.isAgg9
  z9 := Tryz.sizeOf9
  v9 := Tryz.zeroValue9
  t37 := Tryz.underlying208
  a37 := Tryz.isAgg208
  z37 := Tryz.sizeOf208
  v37 := Tryz.zeroValue208
  t70 := Tryz.underlying207
  a70 := Tryz.isAgg207
  z70 := Tryz.sizeOf207
  v70 := Tryz.zeroValue207
  t72 := Tryz.underlying210
  a72 := Tryz.isAgg210
  z72 := Tryz.sizeOf210
  v72 := Tryz.zeroValue210
  t127 := Tryz.underlying241
  a127 := Tryz.isAgg241
  z127 := Tryz.sizeOf241
  v127 := Tryz.zeroValue241 }
theorem Tryz.Builder_Extra_169 : Builder.Extra Tryz.prog Tryz.lays169_ren := {
  sizeBuilder := by kernel_rfl
  liesBuilder := by kernel_rfl
  t5 := Tryz.underlying5
  a5 := Tryz.isAgg5
  z5 := Tryz.sizeOf5
  v5 := Tryz.zeroValue5
  infoByte := by kernel_rfl
  cellsByte := by kernel_rfl
  sizeByte := by kernel_rfl
  neB5 := by decide }
open Go.RowKit in
theorem Tryz.Builder_String_any (B b : Nat) (l : List UInt8) (w : World) (h : Lib.IsBuilder 210 5 B b (Lib.byteCells l) w) (hBw : B ≤ w.heap.size) :
    Calls Tryz.prog 166 #[.pointer (some ⟨b, 0, none⟩)] w fun e w' => e = .returned (.string ⟨l.toArray⟩) ∧ Below B w w' := Any.Builder_String_any Tryz.lays169 Tryz.Builder_Extra_169 B b l w h hBw
def Tryz.laysM171_ren : Go.Shelf.Ren := ⟨fun | 171 => 134 | 243 => 174 | 246 => 200 | 283 => 213 | 284 => 214 | 285 => 215 | 286 => 216 | 129 => 224 | 317 => 223 | 318 => 225 | 319 => 226 | 320 => 227 | 337 => 228 | 338 => 229 | n => n, fun | 3 => 3 | 9 => 9 | 2 => 2 | 4 => 4 | 171 => 256 | 0 => 0 | 53 => 203 | 37 => 208 | 5 => 5 | 173 => 259 | 212 => 270 | 51 => 24 | 20 => 20 | 213 => 271 | 46 => 28 | 232 => 277 | 233 => 278 | n => n, fun | 17 => 2 | 18 => 4 | 19 => 5 | n => n⟩
theorem Tryz.laysM171 : Go.Proofs.LaysM.n171 Tryz.prog Tryz.laysM171_ren := {
  mixed := by kernel_rfl
  f129 := Tryz.func224.trans (congrArg some zk)
  f171 := Tryz.func134.trans (congrArg some zk)
  f243 := Tryz.func174.trans (congrArg some zk)
  f246 := Tryz.func200.trans (congrArg some zk)
  f283 := Tryz.func213.trans (congrArg some zk)
  f284 := Tryz.func214.trans (congrArg some zk)
  f285 := Tryz.func215.trans (congrArg some zk)
  f286 := Tryz.func216.trans (congrArg some zk)
  f317 := Tryz.func223.trans (congrArg some zk)
  f318 := Tryz.func225.trans (congrArg some zk)
  f319 := Tryz.func226.trans (congrArg some zk)
  f320 := Tryz.func227.trans (congrArg some zk)
  f337 := Tryz.func228.trans (congrArg some zk)
  f338 := Tryz.func229.trans (congrArg some zk)
  t0 := Tryz.underlying0
  a0 := Tryz.isAgg0
  z0 := Tryz.sizeOf0
  v0 := Tryz.zeroValue0
  t2 := Tryz.underlying2
  a2 := Tryz.isAgg2
  z2 := Tryz.sizeOf2
  v2 := Tryz.zeroValue2
  t3 := Tryz.underlying3
  a3 := Tryz.isAgg3
  z3 := Tryz.sizeOf3
  v3 := Tryz.zeroValue3
  t4 := Tryz.underlying4
  a4 := Tryz.isAgg4
  z4 := Tryz.sizeOf4
  v4 := Tryz.zeroValue4
  t5 := Tryz.underlying5
  a5 := Tryz.isAgg5
  z5 := Tryz.sizeOf5
  v5 := Tryz.zeroValue5
  t9 := Tryz.underlying9
  a9 := Tryz.isAgg9
  z9 := Tryz.sizeOf9
  v9 := Tryz.zeroValue9
  t20 := Tryz.underlying20
  a20 := Tryz.isAgg20
  z20 := Tryz.sizeOf20
  v20 := Tryz.zeroValue20
  t37 := Tryz.underlying208
  a37 := Tryz.isAgg208
  z37 := Tryz.sizeOf208
  v37 := Tryz.zeroValue208
  t46 := Tryz.underlying28
  a46 := Tryz.isAgg28
  z46 := Tryz.sizeOf28
  v46 := Tryz.zeroValue28
  t51 := Tryz.underlying24
  a51 := Tryz.isAgg24
  z51 := Tryz.sizeOf24
  v51 := Tryz.zeroValue24
  t53 := Tryz.underlying203
  a53 := Tryz.isAgg203
  z53 := Tryz.sizeOf203
  v53 := Tryz.zeroValue203
  t171 := Tryz.underlying256
  a171 := Tryz.isAgg256
  z171 := Tryz.sizeOf256
  v171 := Tryz.zeroValue256
  t173 := Tryz.underlying259
  a173 := Tryz.isAgg259
  z173 := Tryz.sizeOf259
  v173 := Tryz.zeroValue259
  t212 := Tryz.underlying270
  a212 := Tryz.isAgg270
  z212 := Tryz.sizeOf270
  v212 := Tryz.zeroValue270
  t213 := Tryz.underlying271
  a213 := Tryz.isAgg271
  z213 := Tryz.sizeOf271
  t232 := Tryz.underlying277
  a232 := Tryz.isAgg277
  z232 := Tryz.sizeOf277
  v232 := Tryz.zeroValue277
  t233 := Tryz.underlying278
  a233 := Tryz.isAgg278
  z233 := Tryz.sizeOf278
  v233 := Tryz.zeroValue278
  g17 := by kernel_rfl
  g18 := by kernel_rfl
  g19 := by kernel_rfl
  i0 := by kernel_rfl
  i2 := by kernel_rfl
  i3 := by kernel_rfl
  i4 := by kernel_rfl
  i5 := by kernel_rfl
  i9 := by kernel_rfl
  i20 := by kernel_rfl
  i37 := by kernel_rfl
  i46 := by kernel_rfl
  i51 := by kernel_rfl
  i53 := by kernel_rfl
  i171 := by kernel_rfl
  i173 := by kernel_rfl
  i212 := by kernel_rfl
  i232 := by kernel_rfl
  i233 := by kernel_rfl
  m17 := by kernel_rfl
  m18 := by kernel_rfl
  m19 := by kernel_rfl }
open Go.RowKit Go.Sort Go.Lib in
theorem Tryz.strconv_Itoa (n : Int) (h0 : -9223372036854775808 ≤ n) (h1 : n ≤ 9223372036854775807) (w : World) (htab : Lib.TabIs Tryz.prog w "internal/strconv.uint64pow10" .u64 Lib.pow10Tab) :
    Calls Tryz.prog 134 #[.int .i64 n] w fun e w' => e = .returned (.string ⟨(Lib.itoa n).toArray⟩) ∧ ∃ k os, w' = grow (w.drewN k) os := Any.strconv_Itoa Tryz.laysM171 n h0 h1 w htab
end Go.Proofs
namespace Go.Proofs.Bld
open Go Go.RowKit Go.SW Go.Num Go.Mem Go.Proofs
def Pow (w : World) : Prop := Lib.TabIs Tryz.prog w "internal/strconv.uint64pow10" .u64 Lib.pow10Tab
theorem Pow.later {w w' : World} (h : Pow w) (hb : Below w.heap.size w w') : Pow w' := Lib.tabBelow_of_tabIs h w' hb
theorem below_grow (w : World) (k : Nat) (os : Array Obj) : Below w.heap.size w (Go.Sort.grow (w.drewN k) os) := by
  unfold Go.Sort.grow
  refine ⟨rfl, rfl, rfl, ?_, fun i hi => ?_⟩
  · simp
  · simp only [World.drewN]
    rw [Array.getElem?_append_left hi]
theorem infoByte : (Tryz.prog.info? 5).map (fun i => (i.zero, i.size, i.bytes)) = some (some (.int .u8 0), 1, 1) := by kernel_rfl
theorem infoBld : (Tryz.prog.info? 210).map (·.size) = some 2 := by kernel_rfl
abbrev IsB (B b : Nat) (bs : List Value) (w : World) : Prop := Lib.IsBuilder 210 5 B b bs w
abbrev AtB (B b : Nat) (bs : List Value) (w : World) : Prop := Lib.BuilderAt 210 5 B b (.pointer (some ⟨b, 0, none⟩)) bs w
theorem near_of_below {w w' : World} (h : Below w.heap.size w w') : w.grownBy w' none := ⟨h.os, h.tape, h.output, h.size, fun i hi _ => h.block i hi⟩
theorem bld_later {p : Value} {B b : Nat} {bs : List Value} {w w' : World} (h : Lib.BuilderAt 210 5 B b p bs w) (hb : Below w.heap.size w w') : Lib.BuilderAt 210 5 B b p bs w' := by
  have hl := h.lt
  obtain ⟨hB, v, hbk, hown, hne⟩ := h
  refine ⟨hB, v, (hb.block _ hl).trans hbk, hown.kept (near_of_below hb) ?_, hne⟩
  cases h : v.ownBlock with
  | none => exact .inl rfl
  | some k => exact .inr zi
theorem IsB.later {B b : Nat} {bs : List Value} {w w' : World} (h : IsB B b bs w) (hb : Below w.heap.size w w') : IsB B b bs w' := by
  rcases h with h | h
  · exact .inl (bld_later h hb)
  · exact .inr (bld_later h hb)
theorem itoa_nat (n : Nat) : Lib.itoa (n : Int) = Lib.decDigits n := by
  unfold Lib.itoa
  rw [if_neg zo, Int.toNat_natCast]
theorem itoa_ok (n : Nat) (h : n < 1000000000) (w : World) (ht : Pow w) :
    Calls Tryz.prog 134 #[.int .i64 n] w fun e w' => e = .returned (.string ⟨(Lib.decDigits n).toArray⟩) ∧ Below w.heap.size w w' := by
  refine (Tryz.strconv_Itoa n zo zo w ht).mono ?_
  rintro e w' ⟨rfl, k, os, rfl⟩
  rw [itoa_nat]
  exact ⟨rfl, below_grow _ _ _⟩
theorem copyCheck_used (b : Nat) (w : World) (h0 : w.cell? ⟨b, 0, none⟩ = some (.pointer (some ⟨b, 0, none⟩))) :
    Calls Tryz.prog 198 #[.pointer (some ⟨b, 0, none⟩)] w fun e w' => e = .returned (.tuple #[]) ∧ w' = w := by
  obtain ⟨j, hj, _⟩ := Option.map_eq_some_iff.1 infoBld
  go_enter Tryz.func198, Tryz.ntmps198
  go_wp2
  rw [Lib.run_neq_ptr_same w _ Tryz.underlying207 hj]
  go_wp2
  go_end0
  exact ⟨rfl, rfl⟩
theorem copyCheck_fresh (b : Nat) (w : World) (h0 : w.cell? ⟨b, 0, none⟩ = some (.pointer none)) (hsh : w.shape? b = some (210, 2)) (hfz : w.frozen? ⟨b, 0, none⟩ = false) :
    Calls Tryz.prog 198 #[.pointer (some ⟨b, 0, none⟩)] w fun e w' => e = .returned (.tuple #[]) ∧ w' = w.setCell ⟨b, 0, none⟩ (.pointer (some ⟨b, 0, none⟩)) := by
  obtain ⟨j, hj, hjs⟩ := Option.map_eq_some_iff.1 infoBld
  go_enter Tryz.func198, Tryz.ntmps198
  go_wp2
  rw [Lib.run_to_unsafe w ⟨b, 0, none⟩ Tryz.underlying207 Tryz.underlying254 hj (by rw [hjs]; decide) hsh (Nat.zero_lt_succ 1)]
  simp only [Result.andThen]
  rw [Oper.upon_value]
  go_wp2
  rw [run_callFunc_extern Tryz.func212 zk zk zk (e := Extern.AbiNoEscape.same) zk]
  rw [Lib.run_noEscape]
  simp only [Result.andThen]
  rw [Oper.upon_value]
  go_wp2
  rw [Lib.run_from_unsafe w ⟨b, 0, none⟩ Tryz.underlying254 Tryz.underlying207 hj hsh zk]
  simp only [Result.andThen]
  rw [Oper.upon_value]
  go_wp2
  go_end0
  exact ⟨rfl, rfl⟩
theorem copyCheck_ok (B b : Nat) (bs : List Value) (w : World) (h : IsB B b bs w) :
    Calls Tryz.prog 198 #[.pointer (some ⟨b, 0, none⟩)] w fun e w' => e = .returned (.tuple #[]) ∧ (AtB B b bs w' ∧ Below B w w') := by
  rcases h with h | h
  · refine (copyCheck_fresh b w h.cell0 h.shape h.frozen0).mono ?_
    rintro e w' ⟨rfl, rfl⟩
    exact ⟨rfl, h.used _, (Below.refl B w).setCell (p := ⟨b, 0, none⟩) h.1 _⟩
  · refine (copyCheck_used b w h.cell0).mono ?_
    rintro e w' ⟨rfl, rfl⟩
    exact ⟨rfl, h, Below.refl B _⟩
theorem writeByte_ok (B b : Nat) (bs : List Value) (c : Int) (w : World) (h : IsB B b bs w) (hlen : bs.length + 1 ≤ 140737488355328) (hBw : B ≤ w.heap.size) :
    Calls Tryz.prog 164 #[.pointer (some ⟨b, 0, none⟩), .int .u8 c] w fun e w' => e = .returned .nilIface ∧ (AtB B b (bs ++ [.int .u8 c]) w' ∧ Below B w w') := by
  obtain ⟨i0, hi, hz0, hz1, hz2⟩ := info_parts infoByte
  go_enter Tryz.func164, Tryz.ntmps164
  go_wp2_with (go_at_call 198; refine (copyCheck_ok B b bs _ h).mono ?_; rintro e w1 ⟨rfl, h1, hb1⟩; refine Hid.out ?_)
  obtain ⟨hB, v, hbk, hown, hne⟩ := h1
  have c0 : w1.cell? ⟨b, 0, none⟩ = some (.pointer (some ⟨b, 0, none⟩)) := by rw [Lib.cell_of_heap hbk]; rfl
  have c1 : w1.cell? ⟨b, 1, none⟩ = some v := by rw [Lib.cell_of_heap hbk]; rfl
  refine zh ?_
  go_wp2_with (at_builtin; refine wpList_append_own _ rfl _ _ 208 rfl B 5 i0 (.int .u8 0) 1 1 Tryz.underlying208 hi hz0 hz1 hz2 rfl zd _ _ _ rfl (hown.alloc _) ⟨w1.heap.size, 0, none⟩ 1 1 [.int .u8 c] rfl rfl ?c1 ?c2 ?c3 ?c4 ?c5 ?_)
  case c1 =>
    intro j u hj
    match j, hj with
    | 0, hj => simp at hj; subst hj; simp [Addr.add]
  case c2 => intro u hu; simp at hu; subst hu; rfl
  case c3 => unfold maxLen; omega
  case c4 => omega
  case c5 => have := hb1.size; simp; omega
  intro v' w2 hown' hgrow _
  have hlt : b < w1.heap.size := by
    rcases Nat.lt_or_ge b w1.heap.size with h' | h'
    · exact h'
    · simp [Array.getElem?_eq_none h'] at hbk
  have hb2 : w2.heap[b]? = some (.cells #[.pointer (some ⟨b, 0, none⟩), v] 210 (0, 0)) := by
    rw [hgrow.block b (by simp; omega) (fun e => hne e.symm), Lib.alloc_old w1 _ b hlt]
    exact hbk
  have d0 : w2.cell? ⟨b, 0, none⟩ = some (.pointer (some ⟨b, 0, none⟩)) := by rw [Lib.cell_of_heap hb2]; rfl
  have d1 : w2.cell? ⟨b, 1, none⟩ = some v := by rw [Lib.cell_of_heap hb2]; rfl
  have f1 : w2.frozen? ⟨b, 1, none⟩ = false := Lib.frozen_of_heap hb2 1
  obtain ⟨g, cap, rfl⟩ : ∃ g cap, v' = .slice (some ⟨g, 0, none⟩) (bs.length + 1) cap := by
    rcases hown'.2 with ⟨_, h0⟩ | ⟨g, cap, cur, hv, _⟩
    · omega
    · exact ⟨g, cap, hv⟩
  go_wp2
  go_ret
  refine ⟨rfl, ?_, ?_⟩
  · exact Lib.BuilderAt.put (T := 210) (e := 5) hB hb2 (bs' := bs ++ [.int .u8 c]) (by simpa using hown') zd
  · exact ((hb1.alloc (by have := hb1.size; omega) _).grown hgrow (by have := hb1.size; simp; omega) (fun k hk => (hown.lt k hk).1)).setCell (p := ⟨b, 1, none⟩) hB _
theorem writeString_ok (B b : Nat) (bs : List Value) (s : ByteArray) (w : World) (h : IsB B b bs w) (hlen : bs.length + s.size ≤ 140737488355328) (hBw : B ≤ w.heap.size) :
    Calls Tryz.prog 165 #[.pointer (some ⟨b, 0, none⟩), .string s] w fun e w' => e = .returned (.tuple #[.int .i64 s.size, .nilIface]) ∧ (AtB B b (bs ++ Lib.strCells s) w' ∧ Below B w w') := by
  obtain ⟨i0, hi, hz0, hz1, hz2⟩ := info_parts infoByte
  go_enter Tryz.func165, Tryz.ntmps165
  go_wp2_with (go_at_call 198; refine (copyCheck_ok B b bs _ h).mono ?_; rintro e w1 ⟨rfl, h1, hb1⟩; refine Hid.out ?_)
  obtain ⟨hB, v, hbk, hown, hne⟩ := h1
  have c0 : w1.cell? ⟨b, 0, none⟩ = some (.pointer (some ⟨b, 0, none⟩)) := by rw [Lib.cell_of_heap hbk]; rfl
  have c1 : w1.cell? ⟨b, 1, none⟩ = some v := by rw [Lib.cell_of_heap hbk]; rfl
  refine zh ?_
  go_wp2_with (at_builtin; refine Lib.wpList_append_own_string _ rfl _ _ 208 9 rfl B 5 i0 Tryz.underlying208 Tryz.underlying9 hi hz0 hz1 hz2 _ _ _ rfl hown s rfl ?c3 ?c4 ?c5 ?_)
  case c3 => unfold maxLen; omega
  case c4 => omega
  case c5 => have := hb1.size; omega
  intro v' w2 hown' hgrow _
  have hlt : b < w1.heap.size := by
    rcases Nat.lt_or_ge b w1.heap.size with h' | h'
    · exact h'
    · simp [Array.getElem?_eq_none h'] at hbk
  have hb2 : w2.heap[b]? = some (.cells #[.pointer (some ⟨b, 0, none⟩), v] 210 (0, 0)) := by
    rw [hgrow.block b hlt (fun e => hne e.symm)]
    exact hbk
  have d0 : w2.cell? ⟨b, 0, none⟩ = some (.pointer (some ⟨b, 0, none⟩)) := by rw [Lib.cell_of_heap hb2]; rfl
  have d1 : w2.cell? ⟨b, 1, none⟩ = some v := by rw [Lib.cell_of_heap hb2]; rfl
  have f1 : w2.frozen? ⟨b, 1, none⟩ = false := Lib.frozen_of_heap hb2 1
  obtain ⟨ao, n', cap, rfl⟩ : ∃ ao n' cap, v' = .slice ao n' cap := by
    rcases hown'.2 with ⟨hv, _⟩ | ⟨g, cap, cur, hv, _⟩
    · exact ⟨_, _, _, hv⟩
    · exact ⟨_, _, _, hv⟩
  go_wp2
  go_ret2
  refine ⟨rfl, ?_, ?_⟩
  · exact Lib.BuilderAt.put (T := 210) (e := 5) hB hb2 (bs' := bs ++ Lib.strCells s) (by simpa [Lib.strCells_length] using hown') zd
  · exact (hb1.grown hgrow (by have := hb1.size; omega) (fun k hk => (hown.lt k hk).1)).setCell (p := ⟨b, 1, none⟩) hB _
end Go.Proofs.Bld
namespace Go.Mem
open Go Go.RowKit Go.SW Go.Num Go.Dec
def IsT (w : World) (b : Nat) (T : TypeId) : Prop := ∃ cs, Box w b cs T
theorem Box.isT {w : World} {b : Nat} {cs : Array Value} {T : TypeId} (h : Box w b cs T) : IsT w b T := ⟨cs, h⟩
theorem IsT.setCell {w : World} {b : Nat} {T : TypeId} {a : Addr} {u : Value} (h : IsT w b T) : IsT (w.setCell a u) b T := by
  obtain ⟨cs, h⟩ := h
  obtain ⟨c, o, sp⟩ := a
  by_cases hb : b = c
  · subst hb
    have hl := h.lt
    unfold Box at h
    have e : w.heap[b] = .cells cs T (0, 0) := by simpa [hl] using h
    cases sp with
    | none =>
      refine ⟨cs.setIfInBounds o u, ?_⟩
      unfold Box
      simp [World.setCell, hl, Array.getElem_modify, e]
    | some s =>
      refine ⟨cs, ?_⟩
      unfold Box
      simp [World.setCell, hl, Array.getElem_modify, e]
  · exact ⟨cs, h.setOther u hb⟩
theorem IsT.later {w w' : World} {b : Nat} {T : TypeId} (h : IsT w b T) (hb : Below w.heap.size w w') : IsT w' b T := by
  obtain ⟨cs, h⟩ := h
  exact ⟨cs, h.later hb⟩
theorem IsT.alloc {w : World} {b : Nat} {T : TypeId} {o : Obj} (h : IsT w b T) : IsT (w.alloc o) b T := h.later ((Below.refl _ _).alloc (Nat.le_refl _) _)
theorem IsT.drew {w : World} {b : Nat} {T : TypeId} (h : IsT w b T) : IsT w.drew b T := h.later (Below.drew (Below.refl _ _))
theorem IsT.new (w : World) (cs : Array Value) (T : TypeId) : IsT (w.alloc (.cells cs T (0, 0))) w.heap.size T := ⟨cs, Box.new _ _ _⟩
theorem Mag.setT {w : World} {v : Value} {n : Nat} {b o : Nat} {T' : TypeId} {u : Value} (h : Mag w v n) (hx : IsT w b T') (hT : 24 ≠ T') : Mag (w.setCell ⟨b, o, none⟩ u) v n := by
  obtain ⟨cs, hx⟩ := hx
  exact h.setOther hx hT o u
theorem sgd_add {z y : Int} {b : Bool} (h : decide (z < 0) = b) (k : decide (y < 0) = b) : sgd (z.natAbs + y.natAbs) b = z + y := by
  unfold sgd
  cases b
  · simp at h k ⊢; omega
  · simp at h k ⊢; omega
theorem sgd_sub {z y : Int} {b : Bool} (h : decide (z < 0) = b) (k : decide (y < 0) = !b) : sgd (z.natAbs - y.natAbs) b = if y.natAbs ≤ z.natAbs then z + y else sgd (z.natAbs - y.natAbs) b := by
  split
  · unfold sgd
    cases b
    · simp at h k ⊢; omega
    · simp at h k ⊢; omega
  · rfl
theorem sgd_prod (z y : Int) : sgd (z.natAbs * y.natAbs) (decide (z < 0) != decide (y < 0)) = z * y := by
  unfold sgd
  by_cases h : z < 0 <;> by_cases k : y < 0
  · simp only [h, k, decide_true, decide_false, bne_self_eq_false, Bool.true_bne, Bool.false_bne, Bool.not_false, Bool.not_true, if_true, if_false]
    obtain ⟨a, rfl⟩ : ∃ a : Nat, z = -(a : Int) := ⟨z.natAbs, by omega⟩
    obtain ⟨b, rfl⟩ : ∃ b : Nat, y = -(b : Int) := ⟨y.natAbs, by omega⟩
    simp
    try grind
  · simp only [h, k, decide_true, decide_false, bne_self_eq_false, Bool.true_bne, Bool.false_bne, Bool.not_false, Bool.not_true, if_true, if_false]
    obtain ⟨a, rfl⟩ : ∃ a : Nat, z = -(a : Int) := ⟨z.natAbs, by omega⟩
    obtain ⟨b, rfl⟩ : ∃ b : Nat, y = (b : Int) := ⟨y.natAbs, by omega⟩
    simp
    try grind
  · simp only [h, k, decide_true, decide_false, bne_self_eq_false, Bool.true_bne, Bool.false_bne, Bool.not_false, Bool.not_true, if_true, if_false]
    obtain ⟨a, rfl⟩ : ∃ a : Nat, z = (a : Int) := ⟨z.natAbs, by omega⟩
    obtain ⟨b, rfl⟩ : ∃ b : Nat, y = -(b : Int) := ⟨y.natAbs, by omega⟩
    simp
    try grind
  · simp only [h, k, decide_true, decide_false, bne_self_eq_false, Bool.true_bne, Bool.false_bne, Bool.not_false, Bool.not_true, if_true, if_false]
    obtain ⟨a, rfl⟩ : ∃ a : Nat, z = (a : Int) := ⟨z.natAbs, by omega⟩
    obtain ⟨b, rfl⟩ : ∃ b : Nat, y = (b : Int) := ⟨y.natAbs, by omega⟩
    simp
theorem sgd_quot {z y : Int} (h : y ∣ z) : sgd (z.natAbs / y.natAbs) (decide (z < 0) != decide (y < 0)) = z / y := by
  obtain ⟨c, rfl⟩ := h
  rcases Int.lt_trichotomy y 0 with hy | hy | hy
  · rw [Int.natAbs_mul, Nat.mul_div_cancel_left _ zo, Int.mul_ediv_cancel_left _ zo]
    unfold sgd
    rcases Int.lt_trichotomy c 0 with hc | hc | hc
    · have : ¬ y * c < 0 := by have := Int.mul_pos_of_neg_of_neg hy hc; omega
      simp [this, hy]; omega
    · subst hc; simp
    · have : y * c < 0 := Int.mul_neg_of_neg_of_pos hy hc
      simp [this, hy]; omega
  · subst hy; simp [sgd]
  · rw [Int.natAbs_mul, Nat.mul_div_cancel_left _ zo, Int.mul_ediv_cancel_left _ zo]
    unfold sgd
    have hy2 : ¬ y < 0 := by omega
    rcases Int.lt_trichotomy c 0 with hc | hc | hc
    · have : y * c < 0 := Int.mul_neg_of_pos_of_neg hy hc
      simp [this, hy2]; omega
    · subst hc; simp
    · have : ¬ y * c < 0 := by have := Int.mul_pos hy hc; omega
      simp [this, hy2]; omega
theorem IntV.flag {w : World} {pa : Option Addr} {l ca : Nat} {y z : Int} {b : Bool} (h : Mag w (.slice pa l ca) y.natAbs) (e : y = z) (hb : b = decide (y < 0)) : IntV w (.agg #[.slice pa l ca, .bool b]) z := by
  subst e hb
  exact ⟨pa, l, ca, rfl, h⟩
theorem magA {w : World} {v : Value} {n : Nat} (h : Mag w v n := by repeat (first | (with_reducible exact Hid.out (by with_reducible assumption)) | ((with_reducible apply Mag.setT); rotate_left; (focus (repeat (first | (with_reducible exact Box.isT (by with_reducible assumption)) | (with_reducible apply IsT.setCell) | (with_reducible exact IsT.new _ _ _) | (with_reducible apply IsT.alloc) | (with_reducible apply IsT.drew) | ((with_reducible refine IsT.later (w := ?_) ?_ ?_); rotate_right; with_reducible assumption)))); (focus decide)) | (with_reducible apply Mag.alloc) | (with_reducible apply Mag.drew) | ((with_reducible refine Mag.later (w := ?_) ?_ ?_); rotate_right; with_reducible assumption))) : Mag w v n := h
end Go.Mem
namespace Go.Num
theorem val_split2 {B : Nat} {v : List Nat} {k : Nat} (hv : v.length = k + 2) : val B v = val B (v.take k) + B ^ k * (v.getD k 0 + B * v.getD (k + 1) 0) := by
  have h1 := val_take_succ B (l := v) (k := k) zo
  have h2 := val_take_succ B (l := v) (k := k + 1) zo
  rw [show k + 1 + 1 = v.length by omega, List.take_length] at h2
  rw [h2, h1, Nat.mul_add, Nat.pow_succ, Nat.mul_assoc, Nat.add_assoc]
theorem val_split3 {B : Nat} {u : List Nat} {k : Nat} (hu : u.length = k + 3) : val B u = val B (u.take k) + B ^ k * (u.getD k 0 + B * (u.getD (k + 1) 0 + B * u.getD (k + 2) 0)) := by
  have h1 := val_take_succ B (l := u) (k := k) zo
  have h2 := val_take_succ B (l := u) (k := k + 1) zo
  have h3 := val_take_succ B (l := u) (k := k + 2) zo
  rw [show k + 2 + 1 = u.length by omega, List.take_length] at h3
  rw [h3, h2, h1]
  simp only [Nat.mul_add, Nat.pow_succ, Nat.mul_assoc]
  omega
structure Guess (B U V top head q r : Nat) : Prop where
  split : q * top + r = head
  high : U / V ≤ q
  bound : q ≤ B + 1
section
variable {B : Nat} {u v : List Nat} {k : Nat}
theorem guess_start (hB : 1 < B) (hu : u.length = k + 3) (hv : v.length = k + 2) (du : Dig B u) (ht : B ≤ 2 * v.getD (k + 1) 0) (hlt : val B u < val B v * B) (dv : Dig B v) :
    Guess B (val B u) (val B v) (v.getD (k + 1) 0) (u.getD (k + 2) 0 * B + u.getD (k + 1) 0) ((u.getD (k + 2) 0 * B + u.getD (k + 1) 0) / v.getD (k + 1) 0) ((u.getD (k + 2) 0 * B + u.getD (k + 1) 0) % v.getD (k + 1) 0) := by
  have eu := val_split3 (B := B) hu
  have ev := val_split2 (B := B) hv
  have lu := val_lt zo (du.take k)
  have lv := val_lt zo (dv.take k)
  rw [show (u.take k).length = k by simp; omega] at lu
  rw [show (v.take k).length = k by simp; omega] at lv
  have d0 := du.getD zo k
  have d1 := du.getD zo (k + 1)
  have f0 := dv.getD zo k
  generalize u.getD k 0 = u2 at *
  generalize u.getD (k + 1) 0 = u1 at *
  generalize u.getD (k + 2) 0 = un at *
  generalize v.getD k 0 = v2 at *
  generalize v.getD (k + 1) 0 = top at *
  generalize val B (u.take k) = a at *
  generalize val B (v.take k) = b at *
  have hp : 0 < B ^ k := Nat.pow_pos zo
  generalize B ^ k = p at *
  have htop : 0 < top := by omega
  have hV : 0 < val B v := by
    rw [ev]
    have : 0 < p * (v2 + B * top) := Nat.mul_pos hp (by have := Nat.mul_pos (by omega : 0 < B) htop; omega)
    omega
  have hdm := Nat.div_add_mod (un * B + u1) top
  have hml := Nat.mod_lt (un * B + u1) htop
  refine ⟨by rw [Nat.mul_comm]; exact hdm, ?_, ?_⟩
  · rw [← Nat.lt_succ_iff, Nat.div_lt_iff_lt_mul hV, eu, ev]
    generalize (un * B + u1) / top = q at *
    have h1 : un * B + u1 + 1 ≤ (q + 1) * top := by rw [Nat.add_mul, Nat.one_mul, Nat.mul_comm q]; omega
    have h2 : p * (B * (un * B + u1 + 1)) ≤ p * (B * ((q + 1) * top)) := Nat.mul_le_mul_left _ (Nat.mul_le_mul_left _ h1)
    have h3 : a + p * (u2 + B * (u1 + B * un)) < p * (B * (un * B + u1 + 1)) := by
      have : p * (u2 + B * (u1 + B * un) + 1) ≤ p * (B * (un * B + u1 + 1)) := Nat.mul_le_mul_left _ (by rw [Nat.mul_add B (un * B + u1), Nat.mul_one, Nat.add_comm u1, Nat.mul_comm B un]; omega)
      rw [Nat.mul_add, Nat.mul_one] at this
      omega
    have h4 : p * (B * ((q + 1) * top)) ≤ Nat.succ q * (b + p * (v2 + B * top)) := by
      rw [Nat.succ_eq_add_one, show p * (B * ((q + 1) * top)) = (q + 1) * (p * (B * top)) by rw [Nat.mul_left_comm B, Nat.mul_left_comm p]]
      refine Nat.mul_le_mul_left _ ?_
      rw [Nat.mul_add p]; omega
    omega
  · -- the highest digit of u is at most that of v
    have h1 : un ≤ top := by
      rcases Nat.lt_or_ge top un with h | h
      · exfalso
        rw [eu, ev] at hlt
        have h2 : p * (B * (B * (top + 1))) ≤ p * (B * (B * un)) := Nat.mul_le_mul_left _ (Nat.mul_le_mul_left _ (Nat.mul_le_mul_left _ h))
        have h3 : (b + p * (v2 + B * top)) * B ≤ p * (B * (B * (top + 1))) := by
          have : b + p * (v2 + B * top) ≤ p * (B * (top + 1)) := by
            have h5 : p * (v2 + 1 + B * top) ≤ p * (B * (top + 1)) := Nat.mul_le_mul_left _ (by rw [Nat.mul_add B top, Nat.mul_one]; omega)
            simp only [Nat.mul_add, Nat.mul_one] at h5 ⊢
            omega
          calc (b + p * (v2 + B * top)) * B ≤ p * (B * (top + 1)) * B := Nat.mul_le_mul_right _ this
            _ = p * (B * (B * (top + 1))) := by rw [Nat.mul_assoc, Nat.mul_comm (B * (top + 1)) B]
        have h4 : p * (B * (B * un)) ≤ a + p * (u2 + B * (u1 + B * un)) := by simp only [Nat.mul_add]; omega
        omega
      · exact h
    have h2 : (un * B + u1) / top < B + 2 := by
      rw [Nat.div_lt_iff_lt_mul htop]
      have h3 : un * B ≤ top * B := Nat.mul_le_mul_right _ h1
      rw [Nat.add_mul, Nat.mul_comm B top]
      omega
    omega
theorem guess_step (hB : 1 < B) (hu : u.length = k + 3) (hv : v.length = k + 2) (du : Dig B u) {q r : Nat} (ht : 0 < v.getD (k + 1) 0) (hlt : val B u < val B v * B)
    (g : Guess B (val B u) (val B v) (v.getD (k + 1) 0) (u.getD (k + 2) 0 * B + u.getD (k + 1) 0) q r) (hc : B ≤ q ∨ r * B + u.getD k 0 < q * v.getD k 0) :
    1 ≤ q ∧ Guess B (val B u) (val B v) (v.getD (k + 1) 0) (u.getD (k + 2) 0 * B + u.getD (k + 1) 0) (q - 1) (r + v.getD (k + 1) 0) := by
  have eu := val_split3 (B := B) hu
  have ev := val_split2 (B := B) hv
  have lu := val_lt zo (du.take k)
  rw [show (u.take k).length = k by simp; omega] at lu
  obtain ⟨g1, g2, g3⟩ := g
  generalize u.getD k 0 = u2 at *
  generalize u.getD (k + 1) 0 = u1 at *
  generalize u.getD (k + 2) 0 = un at *
  generalize v.getD k 0 = v2 at *
  generalize v.getD (k + 1) 0 = top at *
  generalize val B (u.take k) = a at *
  generalize val B (v.take k) = b at *
  have hp : 0 < B ^ k := Nat.pow_pos zo
  generalize B ^ k = p at *
  have hV : 0 < val B v := by
    rw [ev]
    have : 0 < p * (v2 + B * top) := Nat.mul_pos hp (by have := Nat.mul_pos (by omega : 0 < B) ht; omega)
    omega
  have hq : val B u / val B v < q := by
    rcases hc with hc | hc
    · have : val B u / val B v < B := by rw [Nat.div_lt_iff_lt_mul hV, Nat.mul_comm]; exact hlt
      omega
    · rw [Nat.div_lt_iff_lt_mul hV, eu, ev]
      have h1 : u2 + B * (u1 + B * un) + 1 ≤ q * (v2 + B * top) := by
        have : B * (q * top + r) = B * (un * B + u1) := by rw [g1]
        rw [Nat.mul_add B (q * top)] at this
        rw [Nat.mul_add q, Nat.mul_left_comm q B top]
        rw [Nat.mul_add B u1, ← Nat.mul_comm un B]
        rw [Nat.mul_add B (un * B)] at this
        rw [Nat.mul_comm r B] at hc
        omega
      have h2 := Nat.mul_le_mul_left p h1
      rw [Nat.mul_add p, Nat.mul_one] at h2
      have h3 : p * (q * (v2 + B * top)) ≤ q * (b + p * (v2 + B * top)) := by
        rw [Nat.mul_left_comm]
        exact Nat.mul_le_mul_left _ zo
      omega
  have hq0 := Nat.zero_le (val B u / val B v)
  obtain ⟨q, rfl⟩ : ∃ q', q = q' + 1 := ⟨q - 1, by omega⟩
  refine ⟨by omega, ?_, by simp only [Nat.add_sub_cancel]; omega, by omega⟩
  rw [Nat.add_mul, Nat.one_mul] at g1
  simp only [Nat.add_sub_cancel]
  omega
theorem guess_end (hB : 1 < B) (hu : u.length = k + 3) (hv : v.length = k + 2) (dv : Dig B v) {q r : Nat} (ht : 0 < v.getD (k + 1) 0)
    (g : Guess B (val B u) (val B v) (v.getD (k + 1) 0) (u.getD (k + 2) 0 * B + u.getD (k + 1) 0) q r) (hc : q ≤ B) (hc2 : q * v.getD k 0 ≤ r * B + u.getD k 0) : q ≤ val B u / val B v + 1 := by
  have eu := val_split3 (B := B) hu
  have ev := val_split2 (B := B) hv
  have lv := val_lt zo (dv.take k)
  rw [show (v.take k).length = k by simp; omega] at lv
  obtain ⟨g1, g2, g3⟩ := g
  generalize u.getD k 0 = u2 at *
  generalize u.getD (k + 1) 0 = u1 at *
  generalize u.getD (k + 2) 0 = un at *
  generalize v.getD k 0 = v2 at *
  generalize v.getD (k + 1) 0 = top at *
  generalize val B (u.take k) = a at *
  generalize val B (v.take k) = b at *
  have hp : 0 < B ^ k := Nat.pow_pos zo
  generalize B ^ k = p at *
  have hV : 0 < val B v := by
    rw [ev]
    have : 0 < p * (v2 + B * top) := Nat.mul_pos hp (by have := Nat.mul_pos (by omega : 0 < B) ht; omega)
    omega
  have hq0 := Nat.zero_le (val B u / val B v)
  rcases Nat.eq_zero_or_pos q with h0 | h0
  · omega
  obtain ⟨q', rfl⟩ : ∃ q', q = q' + 1 := ⟨q - 1, by omega⟩
  rw [Nat.add_le_add_iff_right, Nat.le_div_iff_mul_le hV]
  have h1 : (q' + 1) * (v2 + B * top) ≤ u2 + B * (u1 + B * un) := by
    have : B * ((q' + 1) * top + r) = B * (un * B + u1) := by rw [g1]
    rw [Nat.mul_add B ((q' + 1) * top)] at this
    rw [Nat.mul_add (q' + 1), Nat.mul_left_comm (q' + 1) B top]
    rw [Nat.mul_add B u1, ← Nat.mul_comm un B]
    rw [Nat.mul_add B (un * B)] at this
    rw [Nat.mul_comm r B] at hc2
    omega
  have h2 := Nat.mul_le_mul_left p h1
  have h3 : (q' + 1) * b ≤ B * p := Nat.mul_le_mul hc zo
  have h4 : B * p ≤ p * (v2 + B * top) := by
    rw [Nat.mul_comm B p]
    refine Nat.mul_le_mul_left _ ?_
    have : B * 1 ≤ B * top := Nat.mul_le_mul_left _ ht
    omega
  have h5 : (q' + 1) * val B v ≤ val B u + val B v := by
    rw [eu, ev, Nat.mul_add, Nat.mul_left_comm (q' + 1) p]
    omega
  rw [Nat.add_mul, Nat.one_mul] at h5
  omega
end
theorem sub_step {B : Nat} {u v s : List Nat} {i q c b d c' b' : Nat} (hiu : i < u.length) (hiv : i < v.length) (hs : s.length = i)
    (he : val B s + q * val B (v.take i) = val B (u.take i) + (b + c) * B ^ i) (h : d + b + (c + q * v.getD i 0) % B = u.getD i 0 + b' * B) (hc : c' = (c + q * v.getD i 0) / B) :
    val B (s ++ [d]) + q * val B (v.take (i + 1)) = val B (u.take (i + 1)) + (b' + c') * B ^ (i + 1) := by
  rw [val_snoc, val_take_succ B hiu, val_take_succ B hiv, hs, Nat.pow_succ]
  have h1 : B * c' + (c + q * v.getD i 0) % B = c + q * v.getD i 0 := by rw [hc]; exact Nat.div_add_mod _ _
  generalize (c + q * v.getD i 0) % B = m at *
  have h2 : d + b + (c + q * v.getD i 0) = u.getD i 0 + (b' + c') * B := by rw [Nat.add_mul, Nat.mul_comm c' B]; omega
  have h3 := congrArg (B ^ i * ·) h2
  simp only [Nat.mul_add] at h3 he ⊢
  rw [show (b' + c') * (B ^ i * B) = B ^ i * ((b' + c') * B) by rw [Nat.mul_left_comm]]
  rw [show q * (B ^ i * v.getD i 0) = B ^ i * (q * v.getD i 0) by rw [Nat.mul_left_comm]]
  rw [Nat.mul_comm (b + c), Nat.mul_add] at he
  omega
theorem sub_fits {B : Nat} {u v s : List Nat} {n q b c un : Nat} (hB : 1 < B) (hv : v.length = n) (dv : Dig B v) (hV : 0 < val B v)
    (he : val B s + q * val B v = val B (u.take n) + (b + c) * B ^ n) (hu : val B u = val B (u.take n) + B ^ n * un) (hc : b + c ≤ un) (hq1 : val B u / val B v ≤ q) :
    q = val B u / val B v ∧ val B s = val B u % val B v := by
  have h1 : val B u = q * val B v + (val B s + B ^ n * (un - (b + c))) := by
    obtain ⟨t, rfl⟩ := Nat.le.dest hc
    rw [hu, Nat.add_sub_cancel_left, Nat.mul_add, Nat.mul_comm (B ^ n) (b + c)]
    omega
  have h2 : q * val B v ≤ val B u := by omega
  have h3 : q ≤ val B u / val B v := (Nat.le_div_iff_mul_le hV).2 h2
  have hq : q = val B u / val B v := by omega
  refine ⟨hq, ?_⟩
  have h4 := Nat.div_add_mod (val B u) (val B v)
  rw [← hq, Nat.mul_comm] at h4
  have h5 : val B s + B ^ n * (un - (b + c)) = val B u % val B v := by omega
  have h6 := Nat.mod_lt (val B u) hV
  have h7 := val_lt zo dv
  rw [hv] at h7
  rcases Nat.eq_zero_or_pos (un - (b + c)) with h8 | h8
  · rw [h8] at h5; omega
  · have : B ^ n * 1 ≤ B ^ n * (un - (b + c)) := Nat.mul_le_mul_left _ h8
    omega
theorem sub_over {B : Nat} {u v s : List Nat} {n q b c un : Nat} (hB : 1 < B) (hs : s.length = n) (ds : Dig B s) (hv : v.length = n) (dv : Dig B v) (hV : 0 < val B v)
    (he : val B s + q * val B v = val B (u.take n) + (b + c) * B ^ n) (hu : val B u = val B (u.take n) + B ^ n * un) (hc : un < b + c) (hq2 : q ≤ val B u / val B v + 1) :
    q = val B u / val B v + 1 ∧ val B s + val B v = val B u % val B v + B ^ n := by
  have hp : 0 < B ^ n := Nat.pow_pos zo
  have h7 := val_lt zo dv
  rw [hv] at h7
  have h8 := val_lt zo ds
  rw [hs] at h8
  have h4 := Nat.div_add_mod (val B u) (val B v)
  have h6 := Nat.mod_lt (val B u) hV
  obtain ⟨t, ht⟩ := Nat.le.dest hc
  have h1 : val B u + B ^ n * (t + 1) = q * val B v + val B s := by
    rw [hu, Nat.add_assoc, ← Nat.mul_add, show un + (t + 1) = b + c by omega, Nat.mul_comm (B ^ n)]
    omega
  have hpt : B ^ n * (t + 1) = B ^ n * t + B ^ n := by rw [Nat.mul_add, Nat.mul_one]
  have hq3 : val B u / val B v + 1 ≤ q := by
    rcases Nat.lt_or_ge (val B u / val B v) q with h | h
    · exact h
    · exfalso
      have : q * val B v ≤ val B u / val B v * val B v := Nat.mul_le_mul_right _ h
      rw [Nat.mul_comm (val B u / val B v)] at this
      omega
  have hq : q = val B u / val B v + 1 := by omega
  refine ⟨hq, ?_⟩
  rw [hq, Nat.add_mul, Nat.one_mul, Nat.mul_comm (val B u / val B v)] at h1
  have h9 : val B u % val B v + B ^ n * (t + 1) = val B v + val B s := by omega
  rcases Nat.eq_zero_or_pos t with h | h
  · rw [h, Nat.zero_add, Nat.mul_one] at h9; omega
  · have : B ^ n * 1 ≤ B ^ n * t := Nat.mul_le_mul_left _ h
    omega
theorem scale_great {B t : Nat} (hB : B = 1000000000) (ht : 0 < t) (htB : t < B) : B ≤ 2 * (t * (B / (t + 1))) := by
  have hd := Nat.div_add_mod B (t + 1)
  have hm := Nat.mod_lt B (Nat.succ_pos t)
  have hs : 0 < B / (t + 1) := Nat.div_pos zo zo
  generalize B / (t + 1) = s at *
  generalize B % (t + 1) = m at *
  obtain ⟨s', rfl⟩ : ∃ s', s = s' + 1 := ⟨s - 1, by omega⟩
  rw [Nat.add_mul t 1, Nat.one_mul] at hd
  have h1 : t * (s' + 1) = t * s' + t := by rw [Nat.mul_add, Nat.mul_one]
  have h2 : m ≤ t := by omega
  rcases Nat.eq_zero_or_pos s' with h | h
  · subst h; omega
  · obtain ⟨t', rfl⟩ : ∃ t', t = t' + 1 := ⟨t - 1, by omega⟩
    obtain ⟨r, rfl⟩ : ∃ r, s' = r + 1 := ⟨s' - 1, by omega⟩
    have h3 : (t' + 1) * (r + 1 + 1) = t' * r + 2 * t' + r + 2 := by simp only [Nat.add_mul, Nat.mul_add]; omega
    have h4 : 0 ≤ t' * r := Nat.zero_le _
    rw [h3] at hd ⊢
    rcases Nat.eq_zero_or_pos t' with h5 | h5
    · subst h5; omega
    · have h6 : r ≤ t' * r := by have := Nat.mul_le_mul_right r h5; omega
      omega
theorem val_take_drop (B : Nat) {l : List Nat} {t : Nat} (ht : t ≤ l.length) : val B l = val B (l.take t) + B ^ t * val B (l.drop t) := by
  conv => lhs; rw [← List.take_append_drop t l, val_append]
  rw [List.length_take, Nat.min_eq_left ht]
theorem scale_facts {b k : Nat} (hs : sz 1000000000 b = k + 2) :
    let t := (digs 1000000000 b).getD (k + 1) 0
    let s := 1000000000 / (t + 1)
    0 < t ∧ t < 1000000000 ∧ 0 < s ∧ s ≤ 500000000 ∧ sz 1000000000 (b * s) = k + 2 ∧ 1000000000 ≤ 2 * (digs 1000000000 (b * s)).getD (k + 1) 0 := by
  intro t s
  have hB : 1 < 1000000000 := by omega
  have hl : (digs 1000000000 b).length = k + 2 := hs
  have ht0 : 0 < t := Nat.pos_of_ne_zero (top_digs hB b (k + 1) hl)
  have htB : t < 1000000000 := (dig_digs hB b).getD zo (k + 1)
  have hs0 : 0 < s := Nat.div_pos zo zo
  have hs5 : s ≤ 500000000 := by
    have : s ≤ 1000000000 / 2 := Nat.div_le_div_left zo zo
    omega
  have hsd : s * (t + 1) ≤ 1000000000 := Nat.div_mul_le_self _ _
  have hp : 0 < 1000000000 ^ (k + 1) := Nat.pow_pos zo
  have hb : b = val 1000000000 ((digs 1000000000 b).take (k + 1)) + 1000000000 ^ (k + 1) * t := by
    have h1 := val_take_succ 1000000000 (l := digs 1000000000 b) (k := k + 1) zo
    rw [show k + 1 + 1 = (digs 1000000000 b).length by omega, List.take_length, val_digs hB] at h1
    exact h1
  have hlow : val 1000000000 ((digs 1000000000 b).take (k + 1)) < 1000000000 ^ (k + 1) := by
    have := val_lt zo ((dig_digs hB b).take (k + 1))
    rwa [show ((digs 1000000000 b).take (k + 1)).length = k + 1 by simp; omega] at this
  have h1 : b * s < 1000000000 ^ (k + 2) := by
    have h2 : b < 1000000000 ^ (k + 1) * (t + 1) := by rw [Nat.mul_add, Nat.mul_one]; omega
    have h3 : b * s < 1000000000 ^ (k + 1) * (t + 1) * s := Nat.mul_lt_mul_of_pos_right h2 hs0
    have h4 : 1000000000 ^ (k + 1) * ((t + 1) * s) ≤ 1000000000 ^ (k + 1) * 1000000000 := Nat.mul_le_mul_left _ (by rw [Nat.mul_comm]; exact hsd)
    rw [Nat.mul_assoc] at h3
    rw [Nat.pow_succ 1000000000 (k + 1)]
    omega
  have h2 : sz 1000000000 (b * s) = k + 2 := by
    have h3 := sz_le_of_lt hB _ _ h1
    have h4 : sz 1000000000 b ≤ sz 1000000000 (b * s) := sz_mono hB (Nat.le_mul_of_pos_right _ hs0)
    omega
  refine ⟨ht0, htB, hs0, hs5, h2, ?_⟩
  have hl2 : (digs 1000000000 (b * s)).length = k + 2 := h2
  have hb2 : b * s = val 1000000000 ((digs 1000000000 (b * s)).take (k + 1)) + 1000000000 ^ (k + 1) * (digs 1000000000 (b * s)).getD (k + 1) 0 := by
    have h1 := val_take_succ 1000000000 (l := digs 1000000000 (b * s)) (k := k + 1) zo
    rw [show k + 1 + 1 = (digs 1000000000 (b * s)).length by omega, List.take_length, val_digs hB] at h1
    exact h1
  have hlow2 : val 1000000000 ((digs 1000000000 (b * s)).take (k + 1)) < 1000000000 ^ (k + 1) := by
    have := val_lt zo ((dig_digs hB (b * s)).take (k + 1))
    rwa [show ((digs 1000000000 (b * s)).take (k + 1)).length = k + 1 by simp; omega] at this
  have hge := scale_great (B := 1000000000) rfl ht0 htB
  generalize (digs 1000000000 (b * s)).getD (k + 1) 0 = t2 at *
  have h5 : t * s ≤ t2 := by
    rcases Nat.lt_or_ge t2 (t * s) with h | h
    · exfalso
      have h6 : 1000000000 ^ (k + 1) * (t2 + 1) ≤ 1000000000 ^ (k + 1) * (t * s) := Nat.mul_le_mul_left _ h
      rw [Nat.mul_add, Nat.mul_one, ← Nat.mul_assoc] at h6
      have h7 : 1000000000 ^ (k + 1) * t * s ≤ b * s := Nat.mul_le_mul_right _ zo
      omega
    · exact h
  have h8 : 1000000000 ≤ 2 * (t * s) := hge
  omega
theorem dividend {a b s k : Nat} (hs0 : 0 < s) (hs1 : s < 1000000000) (hb : sz 1000000000 b = k + 2) (hab : k + 2 ≤ sz 1000000000 a) :
    let us := digs 1000000000 (a * s) ++ List.replicate (sz 1000000000 a + 1 - sz 1000000000 (a * s)) 0
    sz 1000000000 (a * s) ≤ sz 1000000000 a + 1 ∧ us.length = sz 1000000000 a + 1 ∧ Dig 1000000000 us ∧ val 1000000000 us = a * s ∧ val 1000000000 (us.drop (sz 1000000000 a - (k + 2) + 1)) < b * s := by
  intro us
  have hB : 1 < 1000000000 := by omega
  have h1 : sz 1000000000 (a * s) ≤ sz 1000000000 a + 1 := by
    have := sz_mul hB a s
    have h2 := sz_le_of_lt hB 1 s zo
    omega
  have h2 : us.length = sz 1000000000 a + 1 := by simp only [us, List.length_append, List.length_replicate]; unfold sz at *; omega
  have h3 : val 1000000000 us = a * s := by simp only [us]; rw [val_append, val_zeros, val_digs hB]; simp
  refine ⟨h1, h2, (dig_digs hB _).append fun x hx => by rw [List.eq_of_mem_replicate hx]; omega, h3, ?_⟩
  have h4 := val_take_drop 1000000000 (l := us) (t := sz 1000000000 a - (k + 2) + 1) zo
  rw [h3] at h4
  have h5 := pow_le_of_sz hB (n := b) (k := k + 1) zo
  have h6 := lt_pow_sz hB a
  have h7 : 1000000000 ^ sz 1000000000 a = 1000000000 ^ (k + 1) * 1000000000 ^ (sz 1000000000 a - (k + 2) + 1) := by rw [← Nat.pow_add]; congr 1; omega
  generalize 1000000000 ^ (sz 1000000000 a - (k + 2) + 1) = p at *
  have h8 : a < b * p := by
    have : 1000000000 ^ (k + 1) * p ≤ b * p := Nat.mul_le_mul_right _ h5
    omega
  rcases Nat.lt_or_ge (val 1000000000 (us.drop (sz 1000000000 a - (k + 2) + 1))) (b * s) with h | h
  · exact h
  · exfalso
    have h9 : p * (b * s) ≤ a * s := by have := Nat.mul_le_mul_left p h; omega
    have h10 : a * s < b * p * s := Nat.mul_lt_mul_of_pos_right h8 hs0
    rw [show p * (b * s) = b * p * s by rw [← Nat.mul_assoc, Nat.mul_comm p b]] at h9
    omega
theorem long_step {B : Nat} {us s s' qs : List Nat} {j V q : Nat} (hj : j < us.length) (he : val B (us.drop (j + 1)) = V * val B qs + val B s)
    (hq : q = val B (us.getD j 0 :: s) / V) (hs : val B s' = val B (us.getD j 0 :: s) % V) : val B (us.drop j) = V * val B (q :: qs) + val B s' := by
  rw [drop_getD hj]
  have h := Nat.div_add_mod (val B (us.getD j 0 :: s)) V
  rw [← hq, ← hs] at h
  simp only [val] at h ⊢
  rw [he, Nat.mul_add V, Nat.mul_add B, Nat.mul_left_comm V B]
  omega
theorem window_lt {B x V : Nat} {s : List Nat} (hx : x < B) (hs : val B s < V) : val B (x :: s) < V * B := by
  have h : B * (val B s + 1) ≤ B * V := Nat.mul_le_mul_left _ hs
  rw [Nat.mul_add, Nat.mul_one, Nat.mul_comm B V] at h
  simp only [val]
  omega
theorem long_end {a b s q r : Nat} (hs : 0 < s) (he : a * s = b * s * q + r) (hr : r < b * s) : q = a / b ∧ r / s = a % b := by
  have h1 : a * s / (b * s) = a / b := Nat.mul_div_mul_right _ _ hs
  have h2 : a * s % (b * s) = a % b * s := Nat.mul_mod_mul_right _ _ _
  have hp : 0 < b * s := by omega
  rw [he, Nat.mul_add_div hp, Nat.div_eq_of_lt hr, Nat.add_zero] at h1
  rw [he, Nat.mul_add_mod, Nat.mod_eq_of_lt hr] at h2
  exact ⟨h1, by rw [h2, Nat.mul_div_cancel _ hs]⟩
end Go.Num
namespace Go.Num
def irt (k : Nat) : Nat → Nat → Nat
  | 0, _ => 0
  | f + 1, n => if (2 * irt k f (n / 2 ^ k) + 1) ^ k ≤ n then 2 * irt k f (n / 2 ^ k) + 1 else 2 * irt k f (n / 2 ^ k)
def iroot (k n : Nat) : Nat := irt k (n.log2 / k + 1) n
theorem irt_spec {k : Nat} (hk : 0 < k) : ∀ f n, n < 2 ^ (k * f) → irt k f n ^ k ≤ n ∧ n < (irt k f n + 1) ^ k
  | 0, n, h => by
    have : n = 0 := by simpa using h
    subst this
    refine ⟨?_, ?_⟩
    · show 0 ^ k ≤ 0
      rw [Nat.zero_pow hk]; omega
    · show 0 < (0 + 1) ^ k
      simp
  | f + 1, n, h => by
    have hp : 0 < 2 ^ k := Nat.pow_pos zo
    have h1 : n / 2 ^ k < 2 ^ (k * f) := by
      rw [Nat.div_lt_iff_lt_mul hp, ← Nat.pow_add]
      rw [Nat.mul_add] at h
      simpa using h
    obtain ⟨a, b⟩ := irt_spec hk f _ h1
    unfold irt
    generalize irt k f (n / 2 ^ k) = r at *
    have e : (2 * r) ^ k ≤ n := by
      rw [Nat.mul_pow]
      have := Nat.mul_le_mul_left (2 ^ k) a
      have := Nat.mul_div_le n (2 ^ k)
      omega
    have e2 : n < (2 * r + 1 + 1) ^ k := by
      have h2 : n < 2 ^ k * (n / 2 ^ k + 1) := by
        have := Nat.lt_mul_div_succ n hp
        exact this
      have h3 := Nat.mul_le_mul_left (2 ^ k) b
      rw [show 2 * r + 1 + 1 = 2 * (r + 1) by omega, Nat.mul_pow]
      exact Nat.lt_of_lt_of_le h2 h3
    split
    · rename_i h4; exact ⟨h4, e2⟩
    · rename_i h4; exact ⟨e, by omega⟩
theorem iroot_spec {k : Nat} (hk : 0 < k) (n : Nat) : iroot k n ^ k ≤ n ∧ n < (iroot k n + 1) ^ k := by
  refine irt_spec hk _ _ ?_
  refine Nat.lt_of_lt_of_le (Nat.lt_log2_self (n := n)) (Nat.pow_le_pow_right zo ?_)
  have := Nat.lt_mul_div_succ n.log2 hk
  omega
theorem iroot_eq {k n r : Nat} (hk : 0 < k) (h1 : r ^ k ≤ n) (h2 : n < (r + 1) ^ k) : iroot k n = r := by
  obtain ⟨a, b⟩ := iroot_spec hk n
  have c : iroot k n < r + 1 := by
    refine Nat.lt_of_not_le fun h => ?_
    have := Nat.pow_le_pow_left h k
    omega
  have d : r < iroot k n + 1 := by
    refine Nat.lt_of_not_le fun h => ?_
    have := Nat.pow_le_pow_left h k
    omega
  omega
theorem iroot_le {k n r : Nat} (hk : 0 < k) (h : n < (r + 1) ^ k) : iroot k n ≤ r := by
  obtain ⟨a, b⟩ := iroot_spec hk n
  have c : iroot k n < r + 1 := by
    refine Nat.lt_of_not_le fun h => ?_
    have := Nat.pow_le_pow_left h k
    omega
  omega
theorem le_iroot {k n r : Nat} (hk : 0 < k) (h : r ^ k ≤ n) : r ≤ iroot k n := by
  obtain ⟨a, b⟩ := iroot_spec hk n
  have c : r < iroot k n + 1 := by
    refine Nat.lt_of_not_le fun h => ?_
    have := Nat.pow_le_pow_left h k
    omega
  omega
theorem rearr (r x k : Nat) : r ^ k * x + r * x ^ k ≤ x ^ (k + 1) + r ^ (k + 1) := by
  rw [Nat.pow_succ, Nat.pow_succ]
  rcases Nat.le_total r x with h | h
  · have hk := Nat.pow_le_pow_left h k
    obtain ⟨d, rfl⟩ := Nat.exists_eq_add_of_le h
    obtain ⟨e, he⟩ := Nat.exists_eq_add_of_le hk
    rw [he]
    generalize r ^ k = a
    have : (a + e) * (r + d) + a * r = a * (r + d) + r * (a + e) + e * d := by grind
    omega
  · have hk := Nat.pow_le_pow_left h k
    obtain ⟨d, rfl⟩ := Nat.exists_eq_add_of_le h
    obtain ⟨e, he⟩ := Nat.exists_eq_add_of_le hk
    rw [he]
    generalize x ^ k = a
    have : a * x + (a + e) * (x + d) = (a + e) * x + (x + d) * a + e * d := by grind
    omega
theorem means (r x : Nat) : ∀ k, (k + 1) * r * x ^ k ≤ k * x ^ (k + 1) + r ^ (k + 1)
  | 0 => by simp
  | k + 1 => by
    have ih := Nat.mul_le_mul_right x (means r x k)
    have h := rearr r x (k + 1)
    have e1 : (k + 1 + 1) * r * x ^ (k + 1) = (k + 1) * r * x ^ k * x + r * x ^ (k + 1) := by rw [Nat.pow_succ]; grind
    have e2 : (k + 1) * x ^ (k + 1 + 1) = k * x ^ (k + 1) * x + x ^ (k + 1 + 1) := by rw [Nat.pow_succ x (k + 1)]; grind
    have e3 : (k * x ^ (k + 1) + r ^ (k + 1)) * x = k * x ^ (k + 1) * x + r ^ (k + 1) * x := by rw [Nat.add_mul]
    omega
def newt (k m x : Nat) : Nat := (x * (k - 1) + m / x ^ (k - 1)) / k
theorem newt_ge {k m x : Nat} (hk : 0 < k) (hx : 0 < x) : iroot k m ≤ newt k m x := by
  obtain ⟨a, -⟩ := iroot_spec hk m
  generalize iroot k m = r at *
  obtain ⟨j, rfl⟩ := Nat.exists_eq_add_of_le' hk
  unfold newt
  rw [Nat.add_sub_cancel]
  rw [Nat.le_div_iff_mul_le zo]
  replace a : r ^ (j + 1) ≤ m := a
  show r * (j + 1) ≤ _
  have hm := means r x j
  have hp : 0 < x ^ j := Nat.pow_pos hx
  have h1 : r * (j + 1) - x * j ≤ m / x ^ j := by
    rw [Nat.le_div_iff_mul_le hp, Nat.sub_mul]
    have e1 : (j + 1) * r * x ^ j = r * (j + 1) * x ^ j := by rw [Nat.mul_comm (j + 1)]
    have e2 : j * x ^ (j + 1) = x * j * x ^ j := by rw [Nat.pow_succ]; grind
    omega
  omega
theorem newt_end {k m x : Nat} (hk : 0 < k) (hx : 0 < x) (h1 : iroot k m ≤ x) (h2 : x ≤ newt k m x) : x = iroot k m := by
  obtain ⟨j, rfl⟩ := Nat.exists_eq_add_of_le' hk
  unfold newt at h2
  rw [Nat.add_sub_cancel] at h2
  rw [Nat.le_div_iff_mul_le zo] at h2
  have hp : 0 < x ^ j := Nat.pow_pos hx
  have h3 : x ≤ m / x ^ j := by rw [Nat.mul_succ] at h2; omega
  rw [Nat.le_div_iff_mul_le hp] at h3
  have h4 : x ^ (j + 1) ≤ m := by rw [Nat.pow_succ, Nat.mul_comm]; exact h3
  have := le_iroot hk h4
  omega
theorem newt_start {k m l : Nat} (hk : 0 < k) (h : m < 10 ^ l) : iroot k m ≤ 10 ^ (l / k + 1) := by
  refine iroot_le hk ?_
  have h1 : (10 ^ (l / k + 1)) ^ k ≤ (10 ^ (l / k + 1) + 1) ^ k := Nat.pow_le_pow_left zo k
  rw [← Nat.pow_mul] at h1
  have h2 : 10 ^ l ≤ 10 ^ ((l / k + 1) * k) := Nat.pow_le_pow_right zo (by
    have := Nat.lt_mul_div_succ l hk
    rw [Nat.mul_comm]
    omega)
  omega
end Go.Num
namespace Go.Fra
open Go Go.Num Go.Dec Lib
structure Fr where
  n : ByteArray
  d : ByteArray
deriving DecidableEq
def Fr.v (a : Fr) : Value := .agg #[.string a.n, .string a.d]
def Fr.of (q : Rat) : Fr := ⟨⟨(Lib.itoa q.num).toArray⟩, ⟨(Lib.itoa q.den).toArray⟩⟩
def Fr.no : Fr := ⟨⟨#[]⟩, ⟨#[]⟩⟩
def tenTo (k : Nat) : Nat := 10 ^ k
def okn (n : Nat) : Bool := decide (n < tenTo 600)
def okq (q : Rat) : Bool := okn q.num.natAbs && okn q.den
theorem tenTo_len {n k : Nat} (hk : 0 < k) : n < tenTo k ↔ (decDigits n).length ≤ k :=
  ⟨fun h => dec_len_le k n hk h, fun h => Nat.lt_of_lt_of_le (dec_len_lt n) (Nat.pow_le_pow_right zo h)⟩
theorem okn_len {n : Nat} : okn n = true ↔ (decDigits n).length ≤ 600 := by
  unfold okn
  rw [decide_eq_true_iff]
  exact tenTo_len zo
def rd (a : Fr) : Option Rat :=
  match whole a.n.data.toList, whole a.d.data.toList with
  | some n, some d => if h : 0 < d ∧ n.natAbs.Coprime d.natAbs then some ⟨n, d.natAbs, by omega, h.2⟩ else none
  | _, _ => none
theorem ba_ext {a b : ByteArray} (h : a.data.toList = b.data.toList) : a = b := by
  cases a; cases b
  simp only [ByteArray.mk.injEq]
  exact Array.toList_inj.1 h
theorem rd_of {q : Rat} (h : okq q = true) : rd (Fr.of q) = some q := by
  unfold okq at h
  rw [Bool.and_eq_true, okn_len, okn_len] at h
  have e1 : whole (Fr.of q).n.data.toList = some q.num := whole_of_itoa h.1
  have h2 : (decDigits ((q.den : Nat) : Int).natAbs).length ≤ 600 := (Int.natAbs_natCast q.den).symm ▸ h.2
  have e2 : whole (Fr.of q).d.data.toList = some ((q.den : Nat) : Int) := whole_of_itoa (z := ((q.den : Nat) : Int)) h2
  unfold rd
  rw [e1, e2]
  have hd := q.den_pos
  simp only [Int.natAbs_natCast]
  rw [dif_pos ⟨by omega, q.reduced⟩]
theorem of_rd {a : Fr} {q : Rat} (h : rd a = some q) : a = Fr.of q ∧ okq q = true := by
  unfold rd at h
  split at h
  · rename_i n d e1 e2
    split at h
    · rename_i hk
      simp only [Option.some.injEq] at h
      subst h
      obtain ⟨h1, h2⟩ := whole_itoa e1
      obtain ⟨h3, h4⟩ := whole_itoa e2
      refine ⟨?_, ?_⟩
      · cases a
        unfold Fr.of
        simp only [Fr.mk.injEq] at *
        refine ⟨ba_ext h1, ba_ext ?_⟩
        rw [h3, show ((d.natAbs : Nat) : Int) = d by omega]
      · unfold okq
        rw [Bool.and_eq_true, okn_len, okn_len]
        exact ⟨h2, h4⟩
    · cases h
  · cases h
theorem sgd_divn {n : Int} {g : Nat} (h : g ∣ n.natAbs) : Mem.sgd (n.natAbs / g) (decide (n < 0)) = n / (g : Int) := by
  have h2 : ((g : Nat) : Int) ∣ n := by rwa [← Int.dvd_natAbs, Int.ofNat_dvd]
  have := Mem.sgd_quot h2
  rw [Int.natAbs_natCast, decide_eq_false (show ¬ ((g : Nat) : Int) < 0 by omega), Bool.bne_false] at this
  exact this
theorem mk_parts (n : Int) {d : Nat} (hd : 0 < d) : (mkRat n d).num = Mem.sgd (n.natAbs / n.natAbs.gcd d) (decide (n < 0)) ∧ (mkRat n d).den = d / n.natAbs.gcd d := by
  rw [Rat.num_mkRat, Rat.den_mkRat, if_neg zo, if_neg zo, Nat.gcd_comm d]
  exact ⟨(sgd_divn (Nat.gcd_dvd_left _ _)).symm, rfl⟩
theorem okn_no {n : Nat} (h : 600 < (decDigits n).length) : okn n = false := by
  cases hk : okn n with
  | false => rfl
  | true => have := okn_len.1 hk; omega
def wr (q : Rat) : Fr × Int := if okq q then (Fr.of q, 0) else (Fr.no, 6)
def Fr.res (x : Fr × Int) : Value := .tuple #[x.1.v, .int .i64 x.2]
theorem wr_big {q : Rat} (h : okq q = false) : Fr.res (wr q) = .tuple #[.agg #[.string ⟨#[]⟩, .string ⟨#[]⟩], .int .i64 6] := by unfold wr; rw [if_neg (by simp [h])]; rfl
theorem wr_ok {q : Rat} (h : okq q = true) : Fr.res (wr q) = .tuple #[.agg #[Mem.itxt q.num, Mem.itxt q.den], .int .i64 0] := by unfold wr; rw [if_pos h]; rfl
def cmpq (p q : Rat) : Int := if p < q then -1 else if q < p then 1 else 0
def sgnz (z : Int) : Int := if z = 0 then 0 else if z < 0 then -1 else 1
theorem sgnz_cmp (p q : Rat) : sgnz (p.num * (q.den : Int) + -(q.num * (p.den : Int))) = cmpq p q := by
  unfold sgnz cmpq
  by_cases h1 : p < q
  · rw [if_pos h1]
    have := (Rat.lt_iff p q).1 h1
    rw [if_neg zo, if_pos zo]
  · rw [if_neg h1]
    rw [Rat.lt_iff] at h1
    by_cases h2 : q < p
    · rw [if_pos h2]
      have := (Rat.lt_iff q p).1 h2
      rw [if_neg zo, if_neg zo]
    · rw [if_neg h2]
      rw [Rat.lt_iff] at h2
      rw [if_pos zo]
theorem sgnz_zero (q : Rat) : sgnz q.num = cmpq q 0 := by
  have := sgnz_cmp q 0
  simpa using this
def RatV (w : World) (v : Value) (q : Rat) : Prop := ∃ pa l ca pb m cb, v = .agg #[.slice pa l ca, .bool (decide (q.num < 0)), .slice pb m cb] ∧ Mem.Mag w (.slice pa l ca) q.num.natAbs ∧ Mem.Mag w (.slice pb m cb) q.den
open RowKit Mem in
theorem RatV.later {w w' : World} {v : Value} {q : Rat} (h : RatV w v q) (hb : Below w.heap.size w w') : RatV w' v q := by
  obtain ⟨pa, l, ca, pb, m, cb, h1, h2, h3⟩ := h
  exact ⟨pa, l, ca, pb, m, cb, h1, h2.later hb, h3.later hb⟩
open Mem in
theorem RatV.mk (n d : Nat) {w : World} {pa pb : Option Addr} {l ca m cb : Nat} {b : Bool} {q : Rat} (h : Mag w (.slice pa l ca) n) (k : Mag w (.slice pb m cb) d) (hn : n = q.num.natAbs) (hd : d = q.den) (hb : b = decide (q.num < 0)) : RatV w (.agg #[.slice pa l ca, .bool b, .slice pb m cb]) q := by
  subst hn hd hb
  exact ⟨pa, l, ca, pb, m, cb, rfl, h, k⟩
open RowKit Mem in
theorem _root_.Go.Mem.Mag.carry {w0 w w' : World} {v : Value} {n : Nat} (_ : Mag w0 v n) (k : Mag w v n) (hb : Below w.heap.size w w') : Mag w' v n := k.later hb
theorem RatV.of {w : World} {pa pb : Option Addr} {l ca m cb : Nat} {q : Rat} (h : Mem.Mag w (.slice pa l ca) q.num.natAbs) (k : Mem.Mag w (.slice pb m cb) q.den) : RatV w (.agg #[.slice pa l ca, .bool (decide (q.num < 0)), .slice pb m cb]) q := ⟨pa, l, ca, pb, m, cb, rfl, h, k⟩
def szq (k : Nat) (q : Rat) : Prop := sz 1000000000 q.num.natAbs ≤ k ∧ sz 1000000000 q.den ≤ k
theorem big_le : tenTo 600 ≤ 1000000000 ^ 67 := by decide +kernel
theorem okn_sz {n : Nat} (h : okn n = true) : sz 1000000000 n ≤ 67 := by
  unfold okn at h
  rw [decide_eq_true_iff] at h
  exact sz_le_of_lt zo 67 n (Nat.lt_of_lt_of_le h big_le)
theorem okq_sz {q : Rat} (h : okq q = true) : szq 67 q := by
  unfold okq at h
  rw [Bool.and_eq_true] at h
  exact ⟨okn_sz h.1, okn_sz h.2⟩
theorem szq.mono {k m : Nat} {q : Rat} (h : szq k q) (hk : k ≤ m) : szq m q := ⟨Nat.le_trans h.1 hk, Nat.le_trans h.2 hk⟩
theorem sz_div {a b : Nat} : sz 1000000000 (a / b) ≤ sz 1000000000 a := sz_mono zo (Nat.div_le_self a b)
theorem sz_absmul (z : Int) (n : Nat) : sz 1000000000 (z * n).natAbs ≤ sz 1000000000 z.natAbs + sz 1000000000 n := by
  rw [Int.natAbs_mul, Int.natAbs_natCast]
  exact sz_mul zo _ _
end Go.Fra
namespace Go.SW
open Go Go.RowKit
variable {P : Program} {ops : Array Oper} {Q : Exit → Act → World → Prop} {o : Oper} {i : Nat} {is : List (K × Nat)} {a : Act} {w : World} {N : Nat} {A : List Nat}
theorem walk_pureG (ho : ops[i]? = some o) (hw : Region.wanted o (yielded ops a.tmps) = true) (h : ∀ J : Act → Prop, (∀ a, walk P ops Q N is A a w → J a) → ∃ v, (∀ w', (execOp a.eval o).run P w' = .ok (.value v) w') ∧ J (a.put o.dst v)) : walk P ops Q N ((.pure, i) :: is) A a w := by
  refine walk_pure ho fun J hJ => ?_
  rw [if_pos hw]
  exact h J hJ
theorem walk_loadG {T : TypeId} {x : Operand} {p : Addr} (ho : ops[i]? = some o) (hw : Region.wanted o (yielded ops a.tmps) = true) (hop : o.op = .load T x) (hx : a.eval x = .pointer (some p))
    (h : ∀ J : Value → Prop, (∀ v, walk P ops Q N is A (a.put o.dst v) w → J v) → (w.cell? p).isSome = true ∧ ∃ v, (loadVar T p).run P w = .ok v w ∧ J v) : walk P ops Q N ((.read, i) :: is) A a w := by
  unfold walk
  simp only [ho, hw, if_true]
  obtain ⟨h1, v, h2, h3⟩ := h (fun v => walk P ops Q N is A (a.put o.dst v) w) fun _ h => h
  refine ⟨v, fun w' hb => ?_, h3⟩
  simp only [execOp, hop, hx, Instr.loadAt, Instr.sureAddr, Sem.run_bind, Sem.run_pure, Result.andThen_ok, loadVar_later hb h1 h2]
theorem walk_extG (ho : ops[i]? = some o) (hw : Region.wanted o (yielded ops a.tmps) = true) (h : ∀ w', Below w.heap.size w w' → ∀ J : Act → World → Prop, (∀ a' w'', Below w'.heap.size w' w'' → walk P ops Q N is A a' w'' → J a' w'') → o.wp P a w' J Q) : walk P ops Q N ((.ext, i) :: is) A a w := by
  unfold walk
  simp only [ho, hw, if_true]
  exact fun w' hb => h w' hb _ fun a' w'' h1 h2 => ⟨h1, h2⟩
def K.soft : K → Bool
  | .pure => true
  | .read => true
  | .ext => true
  | _ => false
theorem walk_skip {k : K} (hk : k.soft = true) (ho : ops[i]? = some o) (hw : Region.wanted o (yielded ops a.tmps) = false) (h : ∀ J : Act → Prop, (∀ a, walk P ops Q N is A a w → J a) → J (a.put o.dst undef)) : walk P ops Q N ((k, i) :: is) A a w := by
  have h' := h (fun a => walk P ops Q N is A a w) fun _ h => h
  cases k with
  | pure => unfold walk; simp only [ho, hw]; exact h'
  | read => unfold walk; simp only [ho, hw]; exact h'
  | ext => unfold walk; simp only [ho, hw]; exact h'
  | alloc _ _ => cases hk
  | fin => cases hk
end Go.SW
namespace Go.Proofs
open Go.Shelf
def Tryz.laysC174_ren : Go.Shelf.Ren := ⟨fun | 174 => 152 | 247 => 193 | 245 => 194 | 287 => 207 | 279 => 208 | 280 => 209 | 281 => 210 | 282 => 211 | 321 => 219 | 322 => 220 | 316 => 221 | 171 => 134 | 205 => 222 | 243 => 174 | 246 => 200 | 283 => 213 | 284 => 214 | 285 => 215 | 286 => 216 | 129 => 224 | 317 => 223 | 318 => 225 | 319 => 226 | 320 => 227 | 337 => 228 | 338 => 229 | n => n, fun | 9 => 9 | 3 => 3 | 2 => 2 | 75 => 195 | 85 => 196 | 4 => 4 | 167 => 248 | 5 => 5 | 53 => 203 | 175 => 249 | 46 => 28 | 168 => 251 | 37 => 208 | 0 => 0 | 210 => 266 | 21 => 21 | 127 => 241 | 145 => 275 | 143 => 273 | 171 => 256 | 173 => 259 | 212 => 270 | 51 => 24 | 20 => 20 | 213 => 271 | 232 => 277 | 233 => 278 | 80 => 164 | n => n, fun | 15 => 0 | 16 => 1 | 17 => 2 | 18 => 4 | 19 => 5 | n => n⟩
theorem Tryz.laysC174 : Go.Proofs.LaysC.n174 Tryz.prog Tryz.laysC174_ren := {
  mixed := by kernel_rfl
  f129 := Tryz.func224.trans (congrArg some zk)
  f171 := Tryz.func134.trans (congrArg some zk)
  f174 := Tryz.func152.trans (congrArg some zk)
  f205 := Tryz.func222.trans (congrArg some zk)
  f243 := Tryz.func174.trans (congrArg some zk)
  f245 := Tryz.func194.trans (congrArg some zk)
  f246 := Tryz.func200.trans (congrArg some zk)
  f247 := Tryz.func193.trans (congrArg some zk)
  f279 := Tryz.func208.trans (congrArg some zk)
  f280 := Tryz.func209.trans (congrArg some zk)
  f281 := Tryz.func210.trans (congrArg some zk)
  f282 := Tryz.func211.trans (congrArg some zk)
  f283 := Tryz.func213.trans (congrArg some zk)
  f284 := Tryz.func214.trans (congrArg some zk)
  f285 := Tryz.func215.trans (congrArg some zk)
  f286 := Tryz.func216.trans (congrArg some zk)
  f287 := Tryz.func207.trans (congrArg some zk)
  f316 := Tryz.func221.trans (congrArg some zk)
  f317 := Tryz.func223.trans (congrArg some zk)
  f318 := Tryz.func225.trans (congrArg some zk)
  f319 := Tryz.func226.trans (congrArg some zk)
  f320 := Tryz.func227.trans (congrArg some zk)
  f321 := Tryz.func219.trans (congrArg some zk)
  f322 := Tryz.func220.trans (congrArg some zk)
  f337 := Tryz.func228.trans (congrArg some zk)
  f338 := Tryz.func229.trans (congrArg some zk)
  t0 := Tryz.underlying0
  a0 := Tryz.isAgg0
  z0 := Tryz.sizeOf0
  v0 := Tryz.zeroValue0
  t2 := Tryz.underlying2
  a2 := Tryz.isAgg2
  z2 := Tryz.sizeOf2
  v2 := Tryz.zeroValue2
  t3 := Tryz.underlying3
  a3 := Tryz.isAgg3
  z3 := Tryz.sizeOf3
  v3 := Tryz.zeroValue3
  t4 := Tryz.underlying4
  a4 := Tryz.isAgg4
  z4 := Tryz.sizeOf4
  v4 := Tryz.zeroValue4
  t5 := Tryz.underlying5
  a5 := Tryz.isAgg5
  z5 := Tryz.sizeOf5
  v5 := Tryz.zeroValue5
  t9 := Tryz.underlying9
  a9 := Tryz.isAgg9
  z9 := Tryz.sizeOf9
  v9 := Tryz.zeroValue9
  t20 := Tryz.underlying20
  a20 := Tryz.isAgg20
  z20 := Tryz.sizeOf20
  v20 := Tryz.zeroValue20
  t21 := Tryz.underlying21
  a21 := Tryz.isAgg21
  z21 := Tryz.sizeOf21
  v21 := Tryz.zeroValue21
  t37 := Tryz.underlying208
  a37 := Tryz.isAgg208
  z37 := Tryz.sizeOf208
  v37 := Tryz.zeroValue208
  t46 := Tryz.underlying28
  a46 := Tryz.isAgg28
  z46 := Tryz.sizeOf28
  v46 := Tryz.zeroValue28
  t51 := Tryz.underlying24
  a51 := Tryz.isAgg24
  z51 := Tryz.sizeOf24
  v51 := Tryz.zeroValue24
  t53 := Tryz.underlying203
  a53 := Tryz.isAgg203
  z53 := Tryz.sizeOf203
  v53 := Tryz.zeroValue203
  t75 := Tryz.underlying195
  a75 := Tryz.isAgg195
  z75 := Tryz.sizeOf195
  v75 := Tryz.zeroValue195
  t85 := Tryz.underlying196
  a85 := Tryz.isAgg196
  z85 := Tryz.sizeOf196
  v85 := Tryz.zeroValue196
  t127 := Tryz.underlying241
  a127 := Tryz.isAgg241
  z127 := Tryz.sizeOf241
  v127 := Tryz.zeroValue241
  t143 := Tryz.underlying273
  a143 := Tryz.isAgg273
  z143 := Tryz.sizeOf273
  v143 := Tryz.zeroValue273
  t145 := Tryz.underlying275
  a145 := Tryz.isAgg275
  z145 := Tryz.sizeOf275
  v145 := Tryz.zeroValue275
  t167 := Tryz.underlying248
  a167 := Tryz.isAgg248
  z167 := Tryz.sizeOf248
  v167 := Tryz.zeroValue248
  t168 := Tryz.underlying251
  a168 := Tryz.isAgg251
  z168 := Tryz.sizeOf251
  v168 := Tryz.zeroValue251
  t171 := Tryz.underlying256
  a171 := Tryz.isAgg256
  z171 := Tryz.sizeOf256
  v171 := Tryz.zeroValue256
  t173 := Tryz.underlying259
  a173 := Tryz.isAgg259
  z173 := Tryz.sizeOf259
  v173 := Tryz.zeroValue259
  t175 := Tryz.underlying249
  a175 := Tryz.isAgg249
  z175 := Tryz.sizeOf249
  v175 := Tryz.zeroValue249
  t210 := Tryz.underlying266
  a210 := Tryz.isAgg266
  z210 := Tryz.sizeOf266
  v210 := Tryz.zeroValue266
  t212 := Tryz.underlying270
  a212 := Tryz.isAgg270
  z212 := Tryz.sizeOf270
  v212 := Tryz.zeroValue270
  t213 := Tryz.underlying271
  a213 := Tryz.isAgg271
  z213 := Tryz.sizeOf271
  t232 := Tryz.underlying277
  a232 := Tryz.isAgg277
  z232 := Tryz.sizeOf277
  v232 := Tryz.zeroValue277
  t233 := Tryz.underlying278
  a233 := Tryz.isAgg278
  z233 := Tryz.sizeOf278
  v233 := Tryz.zeroValue278
  g15 := by kernel_rfl
  g16 := by kernel_rfl
  g17 := by kernel_rfl
  g18 := by kernel_rfl
  g19 := by kernel_rfl
  t80 := Tryz.underlying164
  a80 := Tryz.isAgg164
  z80 := Tryz.sizeOf164
  v80 := Tryz.zeroValue164
  i0 := by kernel_rfl
  i2 := by kernel_rfl
  i3 := by kernel_rfl
  i4 := by kernel_rfl
  i5 := by kernel_rfl
  i9 := by kernel_rfl
  i20 := by kernel_rfl
  i21 := by kernel_rfl
  i37 := by kernel_rfl
  i46 := by kernel_rfl
  i51 := by kernel_rfl
  i53 := by kernel_rfl
  i75 := by kernel_rfl
  i80 := by kernel_rfl
  i85 := by kernel_rfl
  i127 := by kernel_rfl
  i143 := by kernel_rfl
  i145 := by kernel_rfl
  i167 := by kernel_rfl
  i168 := by kernel_rfl
  i171 := by kernel_rfl
  i173 := by kernel_rfl
  i175 := by kernel_rfl
  i210 := by kernel_rfl
  i212 := by kernel_rfl
  i232 := by kernel_rfl
  i233 := by kernel_rfl
  m15 := by kernel_rfl
  m16 := by kernel_rfl
  m17 := by kernel_rfl
  m18 := by kernel_rfl
  m19 := by kernel_rfl
  c0 := by kernel_rfl
  c2 := by kernel_rfl
  c3 := by kernel_rfl
  c4 := by kernel_rfl
  c5 := by kernel_rfl
  c9 := by kernel_rfl
  c20 := by kernel_rfl
  c21 := by kernel_rfl
  c37 := by kernel_rfl
  c46 := by kernel_rfl
  c51 := by kernel_rfl
  c53 := by kernel_rfl
  c75 := by kernel_rfl
  c80 := by kernel_rfl
  c85 := by kernel_rfl
  c127 := by kernel_rfl
  c143 := by kernel_rfl
  c145 := by kernel_rfl
  c167 := by kernel_rfl
  c168 := by kernel_rfl
  c171 := by kernel_rfl
  c173 := by kernel_rfl
  c175 := by kernel_rfl
  c210 := by kernel_rfl
  c212 := by kernel_rfl
  c213 := by kernel_rfl
  c232 := by kernel_rfl
  c233 := by kernel_rfl }
open Go.RowKit in
theorem Tryz.strconv_ParseInt_10_at64_ok (s : ByteArray) (hmax : s.size ≤ 9223372036854775806) (v : Int) (h : Lib.parseIntB 64 s.data.toList = .ok v) (w : World) :
    Calls Tryz.prog 152 #[.string s, .int .i64 10, .int .i64 64] w fun e w' => e = .returned (.tuple #[.int .i64 v, .nilIface]) ∧ (w' = w ∨ ∃ t, w' = Lib.bytesWorld w 5 t) := Any.strconv_ParseInt_10_at64_ok Tryz.laysC174 s hmax v h w
open Go.RowKit in
theorem Tryz.strconv_ParseInt_10_at64_range (s : ByteArray) (hlim : s.size ≤ 281474976710656) (h : Lib.parseIntB 64 s.data.toList = .range) (ev : Value) (w : World) (hv : w.cell? ⟨1, 0, none⟩ = some ev) (hev : ev = .nilIface ∨ ∃ te pe, ev = .iface te pe) :
    Calls Tryz.prog 152 #[.string s, .int .i64 10, .int .i64 64] w fun e w' => ∃ N, e = .returned (.tuple #[.int .i64 (Lib.intSat 64 s.data.toList), .iface 251 (.pointer (some ⟨N, 0, none⟩))]) ∧ w.heap.size ≤ N ∧ w'.heap[N]? = some (.cells #[.string ⟨#[80, 97, 114, 115, 101, 73, 110, 116]⟩, .string s, ev] 266 (0, 0)) ∧ Below w.heap.size w w' := Any.strconv_ParseInt_10_at64_range Tryz.laysC174 s hlim h ev w hv hev
def Tryz.lays105_ren : Go.Shelf.Ren := ⟨fun | 105 => 139 | 212 => 181 | 99 => 182 | 165 => 183 | 166 => 165 | 170 => 184 | 169 => 166 | 263 => 203 | 264 => 204 | 206 => 205 | 240 => 198 | 241 => 206 | 276 => 212 | 277 => 218 | n => n, fun | 9 => 9 | 3 => 3 | 4 => 4 | 20 => 20 | 0 => 0 | 46 => 28 | 109 => 225 | 5 => 5 | 72 => 210 | 76 => 212 | 51 => 24 | 146 => 244 | 53 => 203 | 148 => 246 | 70 => 207 | 37 => 208 | 75 => 195 | 127 => 241 | 164 => 254 | 80 => 164 | n => n, fun | n => n⟩
theorem Tryz.lays105 : Go.Proofs.Lays.n105 Tryz.prog Tryz.lays105_ren := {
  mixed := by kernel_rfl
  f99 := Tryz.func182.trans (congrArg some zk)
  f105 := Tryz.func139.trans (congrArg some zk)
  f165 := Tryz.func183.trans (congrArg some zk)
  f166 := Tryz.func165.trans (congrArg some zk)
  f169 := Tryz.func166.trans (congrArg some zk)
  f170 := Tryz.func184.trans (congrArg some zk)
  f206 := Tryz.func205.trans (congrArg some zk)
  f212 := Tryz.func181.trans (congrArg some zk)
  f240 := Tryz.func198.trans (congrArg some zk)
  f241 := Tryz.func206.trans (congrArg some zk)
  f263 := Tryz.func203.trans (congrArg some zk)
  f264 := Tryz.func204.trans (congrArg some zk)
  f276 := Tryz.func212.trans (congrArg some zk)
  f277 := Tryz.func218.trans (congrArg some zk)
  t0 := Tryz.underlying0
  a0 := Tryz.isAgg0
  z0 := Tryz.sizeOf0
  v0 := Tryz.zeroValue0
  t3 := Tryz.underlying3
  a3 := Tryz.isAgg3
  z3 := Tryz.sizeOf3
  v3 := Tryz.zeroValue3
  t4 := Tryz.underlying4
  a4 := Tryz.isAgg4
  z4 := Tryz.sizeOf4
  v4 := Tryz.zeroValue4
  t5 := Tryz.underlying5
  a5 := Tryz.isAgg5
  z5 := Tryz.sizeOf5
  v5 := Tryz.zeroValue5
  t9 := Tryz.underlying9
  a9 := Tryz.isAgg9
  z9 := Tryz.sizeOf9
  v9 := Tryz.zeroValue9
  t20 := Tryz.underlying20
  a20 := Tryz.isAgg20
  z20 := Tryz.sizeOf20
  v20 := Tryz.zeroValue20
  t37 := Tryz.underlying208
  a37 := Tryz.isAgg208
  z37 := Tryz.sizeOf208
  v37 := Tryz.zeroValue208
  t46 := Tryz.underlying28
  a46 := Tryz.isAgg28
  z46 := Tryz.sizeOf28
  v46 := Tryz.zeroValue28
  t51 := Tryz.underlying24
  a51 := Tryz.isAgg24
  z51 := Tryz.sizeOf24
  v51 := Tryz.zeroValue24
  t53 := Tryz.underlying203
  a53 := Tryz.isAgg203
  z53 := Tryz.sizeOf203
  v53 := Tryz.zeroValue203
  t70 := Tryz.underlying207
  a70 := Tryz.isAgg207
  z70 := Tryz.sizeOf207
  v70 := Tryz.zeroValue207
  t72 := Tryz.underlying210
  a72 := Tryz.isAgg210
  z72 := Tryz.sizeOf210
  v72 := Tryz.zeroValue210
  t75 := Tryz.underlying195
  a75 := Tryz.isAgg195
  z75 := Tryz.sizeOf195
  v75 := Tryz.zeroValue195
  t76 := Tryz.underlying212
  a76 := Tryz.isAgg212
  z76 := Tryz.sizeOf212
  v76 := Tryz.zeroValue212
  t109 := Tryz.underlying225
  a109 := Tryz.isAgg225
  z109 := Tryz.sizeOf225
  v109 := Tryz.zeroValue225
  t127 := Tryz.underlying241
  a127 := Tryz.isAgg241
  z127 := Tryz.sizeOf241
  v127 := Tryz.zeroValue241
  t146 := Tryz.underlying244
  a146 := Tryz.isAgg244
  z146 := Tryz.sizeOf244
  v146 := Tryz.zeroValue244
  t148 := Tryz.underlying246
  a148 := Tryz.isAgg246
  z148 := Tryz.sizeOf246
  v148 := Tryz.zeroValue246
  t164 := Tryz.underlying254
  a164 := Tryz.isAgg254
  z164 := Tryz.sizeOf254
  v164 := Tryz.zeroValue254 }
theorem Tryz.Builder_Extra_105 : Builder.Extra Tryz.prog Tryz.lays105_ren := {
  sizeBuilder := by kernel_rfl
  liesBuilder := by kernel_rfl
  t5 := Tryz.underlying5
  a5 := Tryz.isAgg5
  z5 := Tryz.sizeOf5
  v5 := Tryz.zeroValue5
  infoByte := by kernel_rfl
  cellsByte := by kernel_rfl
  sizeByte := by kernel_rfl
  neB5 := by decide }
open Go.RowKit Go.Lib in
theorem Tryz.strings_Repeat (s : ByteArray) (c : Nat) (w : World) (hc : c ≤ 9223372036854775807) (hlen : s.size * c ≤ 140737488355328) :
    Calls Tryz.prog 139 #[.string s, .int .i64 c] w fun e w' => e = .returned (.string ⟨(Lib.repeatL s.data.toList c).toArray⟩) ∧ Below w.heap.size w w' := Any.strings_Repeat Tryz.lays105 Tryz.Builder_Extra_105 s c w hc hlen
end Go.Proofs
namespace Go.Proofs.band
open Go Go.RowKit Go.SW Go.Num Go.Mem Go.Proofs
def bndV (x : (Int × Int) × Int) : Value := .tuple #[.agg #[.int .i64 x.1.1, .int .i64 x.1.2], .int .i64 x.2]
def bok (lo hi : Int) : Bool := decide (-1000000000000000000 ≤ lo) && (decide (lo ≤ hi) && decide (hi ≤ 1000000000000000000))
theorem valid_ok (lo hi : Int) (w : World) : Calls Tryz.prog 95 #[.int .i64 lo, .int .i64 hi] w (fun e w' => e = .returned (.bool (bok lo hi)) ∧ Below w.heap.size w w') := by
  unfold bok
  cases h1 : decide (-1000000000000000000 ≤ lo) <;> cases h2 : decide (lo ≤ hi) <;> cases h3 : decide (hi ≤ 1000000000000000000)
  all_goals
    go_enter Tryz.func95, Tryz.ntmps95
    go_wp2_with fail
    go_ret
    exact ⟨rfl, Below.refl _ _⟩
theorem Check_ok (lo hi : Int) (w : World) : Calls Tryz.prog 45 #[.agg #[.int .i64 lo, .int .i64 hi]] w (fun e w' => e = .returned (.int .i64 (if bok lo hi then 0 else 30)) ∧ Below w.heap.size w w') := by
  have H := zh (fun W => valid_ok lo hi W)
  generalize bok lo hi = b at *
  cases b
  all_goals
    go_enter Tryz.func45, Tryz.ntmps45
    go_wp2_with fail
    refine (H.out _).mono ?_
    rintro e w1 ⟨rfl, hb1⟩
    have hw := Bt (show Below w.heap.size w (w.alloc (.cells #[.int .i64 lo, .int .i64 hi] 23)) from belA) hb1
    go_wp2_with fail
    go_ret
    exact ⟨rfl, hw⟩
theorem Of_ok (lo hi : Int) (w : World) : Calls Tryz.prog 96 #[.int .i64 lo, .int .i64 hi] w (fun e w' => e = .returned (if bok lo hi then .tuple #[.agg #[.int .i64 lo, .int .i64 hi], .int .i64 0] else .tuple #[.agg #[.int .i64 0, .int .i64 0], .int .i64 30]) ∧ Below w.heap.size w w') := by
  have H := zh (fun W => valid_ok lo hi W)
  generalize bok lo hi = b at *
  cases b
  all_goals
    go_enter Tryz.func96, Tryz.ntmps96
    go_wp2_with fail
    refine (H.out _).mono ?_
    rintro e w1 ⟨rfl, hb1⟩
    have hx := Box.later (Box.new w #[.int .i64 0, .int .i64 0] 23) hb1
    have cx := hx.cell
    have fx := hx.free
    have lx := hx.lt
    have hw := Bt (show Below w.heap.size w (w.alloc (.cells #[.int .i64 0, .int .i64 0] 23)) from belA) hb1
    go_wp2_with fail
    refine ret_ct rfl rfl boxA Tryz.underlying23 rfl zk ?_
    exact ⟨rfl, belA⟩
end Go.Proofs.band
namespace Go.Proofs.power
open Go Go.RowKit Go.SW Go.Num Go.Mem Go.Proofs Go.Proofs.band
def eok (p q : Int) : Bool := decide (1 ≤ p) && (decide (p ≤ 36) && (decide (1 ≤ q) && decide (q ≤ 12)))
theorem valid_ok (p q : Int) (w : World) : Calls Tryz.prog 46 #[.agg #[.int .i64 p, .int .i64 q]] w (fun e w' => e = .returned (.bool (eok p q)) ∧ Below w.heap.size w w') := by
  unfold eok
  cases h1 : decide (1 ≤ p) <;> cases h2 : decide (p ≤ 36) <;> cases h3 : decide (1 ≤ q) <;> cases h4 : decide (q ≤ 12)
  all_goals
    go_enter Tryz.func46, Tryz.ntmps46
    go_wp2_with fail
    go_ret
    exact ⟨rfl, belA⟩
def outB (a b : Int × Int) : Value := if a.2 ≠ 0 then .tuple #[.agg #[.int .i64 0, .int .i64 0], .int .i64 a.2] else if b.2 ≠ 0 then .tuple #[.agg #[.int .i64 0, .int .i64 0], .int .i64 b.2] else
  if bok a.1 b.1 then .tuple #[.agg #[.int .i64 a.1, .int .i64 b.1], .int .i64 0] else .tuple #[.agg #[.int .i64 0, .int .i64 0], .int .i64 6]
theorem outward_ok (lo hi : Int) (f : Value) (F : FuncId) (caps free : Array Value) (a b : Int × Int) (w : World) (hf : f = .func (.func F) caps free)
    (h1 : ∀ W, Below w.heap.size w W → Calls Tryz.prog F (caps ++ #[.int .i64 lo, .bool false]) W (fun e w' => e = .returned (.tuple #[.int .i64 a.1, .int .i64 a.2]) ∧ Below W.heap.size W w'))
    (h2 : ∀ W, Below w.heap.size w W → Calls Tryz.prog F (caps ++ #[.int .i64 hi, .bool true]) W (fun e w' => e = .returned (.tuple #[.int .i64 b.1, .int .i64 b.2]) ∧ Below W.heap.size W w')) (hfr : free = #[])
    (hen : ∀ args W, (callFunc F args).run Tryz.prog W = .ok (.enter F args) W) :
    Calls Tryz.prog 47 #[.int .i64 lo, .int .i64 hi, f] w (fun e w' => e = .returned (outB a b) ∧ Below w.heap.size w w') := by
  subst hf hfr
  obtain ⟨a1, a2⟩ := a
  obtain ⟨b1, b2⟩ := b
  have H1 := zh h1
  have H2 := zh h2
  have HO := zh (fun W => Of_ok a1 b1 W)
  unfold outB
  simp only
  clear h1 h2
  go_enter Tryz.func47, Tryz.ntmps47
  go_wp2_with fail
  refine (H1.out _ belA).mono ?_
  rintro e w1 ⟨rfl, hb1⟩
  have hx := Box.later (Box.new w #[.int .i64 0, .int .i64 0] 23) hb1
  have HX := zh hx
  have HB1 := zh (Bt (show Below w.heap.size w (w.alloc (.cells #[.int .i64 0, .int .i64 0] 23)) from belA) hb1)
  clear hx hb1
  by_cases ha : a2 = 0
  · subst ha
    go_wp2_with fail
    refine (H2.out _ HB1.out).mono ?_
    rintro e w2 ⟨rfl, hb2⟩
    replace HX := zh (HX.out.later hb2)
    have HB2 := zh (Bt HB1.out hb2)
    clear hb2 HB1
    by_cases hb : b2 = 0
    · subst hb
      go_wp2_with fail
      refine (HO.out _).mono ?_
      rintro e w3 ⟨rfl, hb3⟩
      replace HX := zh (HX.out.later hb3)
      have HB3 := zh (Bt HB2.out hb3)
      clear hb3 HB2
      have hx := HX.out
      have cx := hx.cell
      have fx := hx.free
      have lx := hx.lt
      have hw := HB3.out
      cases hk : bok a1 b1
      all_goals
        go_wp2_with fail
        refine ret_ct rfl rfl boxA Tryz.underlying23 rfl zk ?_
        exact ⟨by first | rfl | (rw [if_neg (fun h => h rfl), if_neg (fun h => h rfl), hk]; rfl), belA⟩
    · have g : (b2 == 0) = false := beq_eq_false_iff_ne.2 hb
      have hx := HX.out
      have cx := hx.cell
      have fx := hx.free
      have lx := hx.lt
      have hw := HB2.out
      go_wp2_with fail
      refine ret_ct rfl rfl boxA Tryz.underlying23 rfl zk ?_
      exact ⟨by first | rfl | (rw [if_neg (fun h => h rfl), if_pos hb]; rfl), belA⟩
  · have g : (a2 == 0) = false := beq_eq_false_iff_ne.2 ha
    have hx := HX.out
    have cx := hx.cell
    have fx := hx.free
    have lx := hx.lt
    have hw := HB1.out
    go_wp2_with fail
    refine ret_ct rfl rfl boxA Tryz.underlying23 rfl zk ?_
    exact ⟨by first | rfl | (rw [if_pos ha]; rfl), belA⟩
end Go.Proofs.power
namespace Go.Fra
open Go Go.Num Go.Dec Lib
abbrev FrI := Fr × Int
def chk (a : Fr) : Int := if (rd a).isSome then 0 else 20
def sgnF (a : Fr) : Int × Int := match rd a with
  | some q => (cmpq q 0, 0)
  | none => (0, 20)
def ofF (n d : Int) : Fr × Int := if d = 0 then (Fr.no, 7) else wr (n / d)
theorem make_eq (n d : Int) (h : d ≠ 0) : mkRat (Mem.sgd n.natAbs (!(decide (n < 0) == decide (d < 0)))) d.natAbs = (n : Rat) / (d : Rat) := by
  rw [← Rat.divInt_eq_div]
  rcases Int.lt_trichotomy d 0 with hd | hd | hd
  · rw [← Rat.neg_divInt_neg]
    obtain ⟨k, rfl⟩ : ∃ k : Nat, d = -(k : Int) := ⟨d.natAbs, by omega⟩
    rw [Int.neg_neg, Rat.divInt_ofNat, Int.natAbs_neg, Int.natAbs_natCast]
    congr 1
    unfold Mem.sgd
    by_cases hn : n < 0
    · simp [hn, hd]; omega
    · simp [hn, hd]; omega
  · exact absurd hd h
  · obtain ⟨k, rfl⟩ : ∃ k : Nat, d = (k : Int) := ⟨d.natAbs, by omega⟩
    rw [Rat.divInt_ofNat, Int.natAbs_natCast]
    congr 1
    have hd2 : ¬ (k : Int) < 0 := by omega
    unfold Mem.sgd
    by_cases hn : n < 0
    · simp [hn, hd2]; omega
    · simp [hn, hd2]; omega
theorem res_mk (s t : ByteArray) (e : Int) : Fr.res (⟨s, t⟩, e) = .tuple #[.agg #[.string s, .string t], .int .i64 e] := rfl
end Go.Fra
namespace Go.Num
def pow12 (n p q : Nat) : Nat := n ^ p * 10 ^ (12 * q) / 10 ^ (12 * p)
def plo (n p q : Nat) : Nat := iroot q (pow12 n p q)
def pex (n p q : Nat) : Bool := decide (plo n p q ^ q * 10 ^ (12 * p) = n ^ p * 10 ^ (12 * q))
def phi (n p q : Nat) : Nat := if pex n p q then plo n p q else plo n p q + 1
theorem ten_pos (k : Nat) : 0 < 10 ^ k := Nat.pow_pos zo
theorem pow12_le {n p q : Nat} (h : p ≤ q) : pow12 n p q = n ^ p * 10 ^ (12 * (q - p)) := by
  unfold pow12
  rw [show 12 * q = 12 * (q - p) + 12 * p by omega, Nat.pow_add, ← Nat.mul_assoc, Nat.mul_div_cancel _ (ten_pos _)]
theorem pow12_gt {n p q : Nat} (h : q ≤ p) : pow12 n p q = n ^ p / 10 ^ (12 * (p - q)) := by
  unfold pow12
  rw [show 12 * p = 12 * (p - q) + 12 * q by omega, Nat.pow_add, Nat.mul_div_mul_right _ _ (ten_pos _)]
theorem le_pow12 {n p q x : Nat} : x ≤ pow12 n p q ↔ x * 10 ^ (12 * p) ≤ n ^ p * 10 ^ (12 * q) := by
  unfold pow12
  exact Nat.le_div_iff_mul_le (ten_pos _)
theorem plo_spec {q : Nat} (hq : 0 < q) (n p : Nat) : plo n p q ^ q * 10 ^ (12 * p) ≤ n ^ p * 10 ^ (12 * q) ∧ n ^ p * 10 ^ (12 * q) < (plo n p q + 1) ^ q * 10 ^ (12 * p) := by
  obtain ⟨h1, h2⟩ := iroot_spec hq (pow12 n p q)
  refine ⟨le_pow12.1 h1, ?_⟩
  rw [← Nat.not_le]
  exact fun h => absurd (le_pow12.2 h) (Nat.not_le.2 h2)
theorem le_plo {n p q r : Nat} (hq : 0 < q) (h : r ^ q * 10 ^ (12 * p) ≤ n ^ p * 10 ^ (12 * q)) : r ≤ plo n p q := le_iroot hq (le_pow12.2 h)
theorem plo_le {n p q r : Nat} (hq : 0 < q) (h : n ^ p * 10 ^ (12 * q) < (r + 1) ^ q * 10 ^ (12 * p)) : plo n p q ≤ r :=
  iroot_le hq (Nat.not_le.1 fun h' => absurd (le_pow12.1 h') (Nat.not_le.2 h))
theorem plo_eq {n p q r : Nat} (hq : 0 < q) (h1 : r ^ q * 10 ^ (12 * p) ≤ n ^ p * 10 ^ (12 * q)) (h2 : n ^ p * 10 ^ (12 * q) < (r + 1) ^ q * 10 ^ (12 * p)) : plo n p q = r := Nat.le_antisymm (plo_le hq h2) (le_plo hq h1)
theorem phi_bounds (n p q : Nat) : plo n p q ≤ phi n p q ∧ phi n p q ≤ plo n p q + 1 := by
  unfold phi
  split <;> omega
theorem phi_spec {q : Nat} (hq : 0 < q) (n p : Nat) : n ^ p * 10 ^ (12 * q) ≤ phi n p q ^ q * 10 ^ (12 * p) := by
  unfold phi
  split
  · rename_i h
    exact Nat.le_of_eq (of_decide_eq_true h).symm
  · exact Nat.le_of_lt (plo_spec hq n p).2
theorem pow_mul_mono {a b q c : Nat} (h : a ≤ b) : a ^ q * c ≤ b ^ q * c := Nat.mul_le_mul_right _ (Nat.pow_le_pow_left h q)
theorem phi_le {n p q r : Nat} (hq : 0 < q) (h : n ^ p * 10 ^ (12 * q) ≤ r ^ q * 10 ^ (12 * p)) : phi n p q ≤ r := by
  have s := plo_spec hq n p
  have hr : plo n p q ≤ r := by
    rcases Nat.lt_or_ge r (plo n p q) with h1 | h1
    · have a := Nat.le_trans s.1 h
      have b : r ^ q * 10 ^ (12 * p) < plo n p q ^ q * 10 ^ (12 * p) := (Nat.mul_lt_mul_right (ten_pos _)).2 (Nat.pow_lt_pow_left h1 zo)
      omega
    · exact h1
  unfold phi
  split
  · exact hr
  · rename_i h1
    rcases Nat.eq_or_lt_of_le hr with e | h2
    · refine absurd ?_ h1
      rw [← e] at h
      unfold pex
      exact decide_eq_true (Nat.le_antisymm s.1 h)
    · omega
theorem ten_add {B k : Nat} (h : B = 10 ^ k) (b : Nat) : 10 ^ (k + b) = B * 10 ^ b := by rw [h, Nat.pow_add]
theorem plo_big {n p q : Nat} (hq : 0 < q) (p36 : p ≤ 36) (q12 : q ≤ 12) (h : 10 ^ 600 ≤ n ^ p) : 10 ^ 18 < plo n p q := by
  obtain ⟨B, eB⟩ : ∃ B, B = 10 ^ 600 := ⟨_, rfl⟩
  rw [← eB] at h
  refine le_plo hq ?_
  have h1 : (10 ^ 18 + 1) ^ q ≤ 2 ^ q * 10 ^ (18 * q) := by
    rw [Nat.pow_mul, ← Nat.mul_pow]
    exact Nat.pow_le_pow_left zd q
  have h2 : 2 ^ q ≤ 2 ^ 12 := Nat.pow_le_pow_right zo q12
  have h3 : 2 ^ 12 ≤ 10 ^ 4 := by decide
  have h4 : (10 ^ 18 + 1) ^ q ≤ 10 ^ (4 + 18 * q) := by
    rw [Nat.pow_add]
    exact Nat.le_trans h1 (Nat.mul_le_mul_right _ (Nat.le_trans h2 h3))
  calc (10 ^ 18 + 1) ^ q * 10 ^ (12 * p) ≤ 10 ^ (4 + 18 * q) * 10 ^ (12 * p) := Nat.mul_le_mul_right _ h4
    _ = 10 ^ (4 + 18 * q + 12 * p) := (Nat.pow_add ..).symm
    _ ≤ 10 ^ (600 + 12 * q) := Nat.pow_le_pow_right zo zo
    _ = B * 10 ^ (12 * q) := ten_add eB _
    _ ≤ n ^ p * 10 ^ (12 * q) := Nat.mul_le_mul_right _ h
theorem lo_iff {n p q r : Nat} (hq : 0 < q) : r ^ q * 10 ^ (12 * p) ≤ n ^ p * 10 ^ (12 * q) ↔ r ≤ plo n p q :=
  ⟨le_plo hq, fun h => Nat.le_trans (pow_mul_mono h) (plo_spec hq n p).1⟩
end Go.Num
namespace Go.Num
theorem pex_le {n p q : Nat} (h : p ≤ q) : pex n p q = decide (plo n p q ^ q = pow12 n p q) := by
  unfold pex
  rw [pow12_le h, show 12 * q = 12 * (q - p) + 12 * p by omega, Nat.pow_add 10, ← Nat.mul_assoc]
  exact decide_eq_decide.2 ⟨fun e => Nat.eq_of_mul_eq_mul_right (ten_pos _) e, fun e => by rw [e]⟩
theorem pex_gt {n p q : Nat} (hq : 0 < q) (h : q ≤ p) : pex n p q = (decide (plo n p q ^ q = pow12 n p q) && decide (n ^ p % 10 ^ (12 * (p - q)) = 0)) := by
  have hs := (iroot_spec hq (pow12 n p q)).1
  have hd := Nat.div_add_mod (n ^ p) (10 ^ (12 * (p - q)))
  have hp := ten_pos (12 * (p - q))
  unfold pex
  rw [Bool.and_eq_decide]
  refine decide_eq_decide.2 ?_
  rw [show 12 * p = 12 * (p - q) + 12 * q by omega, Nat.pow_add 10, ← Nat.mul_assoc]
  rw [← pow12_gt h] at hd
  change plo n p q ^ q ≤ pow12 n p q at hs
  simp only [decide_eq_true_eq]
  constructor
  · intro e
    have e := Nat.eq_of_mul_eq_mul_right (ten_pos _) e
    have h1 : plo n p q ^ q * 10 ^ (12 * (p - q)) ≤ 10 ^ (12 * (p - q)) * pow12 n p q := by
      rw [Nat.mul_comm]
      exact Nat.mul_le_mul_left _ hs
    refine ⟨?_, by omega⟩
    refine Nat.eq_of_mul_eq_mul_right hp ?_
    rw [Nat.mul_comm (pow12 n p q)]
    omega
  · rintro ⟨e1, e2⟩
    rw [e1, ← hd, e2, Nat.add_zero, Nat.mul_comm (pow12 n p q)]
theorem big_root {q x : Nat} (hq : 0 < q) (q12 : q ≤ 12) (h : 10 ^ 600 ≤ x) : 10 ^ 18 < iroot q x := by
  refine le_iroot hq (Nat.le_trans ?_ h)
  have h1 : (10 ^ 18 + 1) ^ q ≤ (10 ^ 18 + 1) ^ 12 := Nat.pow_le_pow_right zo q12
  have h2 : (10 ^ 18 + 1) ^ 12 ≤ 10 ^ 600 := by decide +kernel
  exact Nat.le_trans h1 h2
def endV (n p q : Nat) (up : Bool) : Int × Int := if plo n p q ≤ 10 ^ 18 then (((if up then phi n p q else plo n p q : Nat) : Int), 0) else (0, 6)
theorem endV_up {n p q : Nat} {up : Bool} (h : plo n p q ≤ 10 ^ 18) : endV n p q up = (((plo n p q : Nat) : Int) + (if (up && !(pex n p q)) then 1 else 0), 0) := by
  unfold endV phi
  rw [if_pos h]
  cases up <;> cases pex n p q <;> simp
end Go.Num
namespace Go.Num
def sqs (l : List Nat) : Nat := (l.map fun x => x ^ 2).sum
def nlo (l : List Nat) : Nat := iroot 2 (sqs l)
def nhi (l : List Nat) : Nat := if nlo l ^ 2 = sqs l then nlo l else nlo l + 1
theorem sqs_cons (x : Nat) (l : List Nat) : sqs (x :: l) = x ^ 2 + sqs l := rfl
theorem sqs_append (a b : List Nat) : sqs (a ++ b) = sqs a + sqs b := by
  unfold sqs
  rw [List.map_append, List.sum_append]
theorem nlo_spec (l : List Nat) : nlo l ^ 2 ≤ sqs l ∧ sqs l < (nlo l + 1) ^ 2 := iroot_spec zo _
theorem nhi_spec (l : List Nat) : sqs l ≤ nhi l ^ 2 := by
  unfold nhi
  split
  · rename_i h; omega
  · exact Nat.le_of_lt (nlo_spec l).2
theorem nlo_le_nhi (l : List Nat) : nlo l ≤ nhi l := by
  unfold nhi
  split <;> omega
theorem le_nlo {l : List Nat} {r : Nat} (h : r ^ 2 ≤ sqs l) : r ≤ nlo l := le_iroot zo h
theorem nlo_le {l : List Nat} {r : Nat} (h : sqs l ≤ r ^ 2) : nlo l ≤ r := by
  rcases Nat.lt_or_ge r (nlo l) with h1 | h1
  · have := Nat.pow_lt_pow_left h1 (show 2 ≠ 0 by omega)
    have := (nlo_spec l).1
    omega
  · exact h1
theorem nhi_le {l : List Nat} {r : Nat} (h : sqs l ≤ r ^ 2) : nhi l ≤ r := by
  have h1 := nlo_le h
  unfold nhi
  split
  · exact h1
  · rename_i h2
    rcases Nat.eq_or_lt_of_le h1 with e | h3
    · have := (nlo_spec l).1
      rw [e] at this h2
      omega
    · omega
theorem sq_le {x : Nat} {l : List Nat} (h : x ∈ l) : x ^ 2 ≤ sqs l := by
  induction l with
  | nil => cases h
  | cons y t ih =>
    rw [sqs_cons]
    rcases List.mem_cons.1 h with rfl | h
    · omega
    · have := ih h; omega
theorem mem_nlo {x : Nat} {l : List Nat} (h : x ∈ l) : x ≤ nlo l := le_nlo (sq_le h)
theorem mem_nhi {x : Nat} {l : List Nat} (h : x ∈ l) : x ≤ nhi l := Nat.le_trans (mem_nlo h) (nlo_le_nhi l)
theorem sqs_sum (l : List Nat) : sqs l ≤ l.sum ^ 2 := by
  induction l with
  | nil => exact Nat.le_refl _
  | cons x t ih =>
    rw [sqs_cons, List.sum_cons]
    have : (x + t.sum) ^ 2 = x ^ 2 + t.sum ^ 2 + 2 * (x * t.sum) := by
      rw [Nat.pow_two, Nat.pow_two, Nat.pow_two, Nat.add_mul, Nat.mul_add, Nat.mul_add, Nat.mul_comm t.sum x]
      omega
    omega
theorem nhi_sum (l : List Nat) : nhi l ≤ l.sum := nhi_le (sqs_sum l)
theorem nlo_sum (l : List Nat) : nlo l ≤ l.sum := Nat.le_trans (nlo_le_nhi l) (nhi_sum l)
theorem nlo_one (x : Nat) : nlo [x] = x := Nat.le_antisymm (Nat.le_trans (nlo_sum [x]) zi) (mem_nlo zi)
theorem nhi_one (x : Nat) : nhi [x] = x := Nat.le_antisymm (Nat.le_trans (nhi_sum [x]) zi) (mem_nhi zi)
theorem sqs_turn (l : List Nat) (k : Nat) : sqs (l.drop k ++ l.take k) = sqs l := by
  rw [sqs_append, Nat.add_comm, ← sqs_append, List.take_append_drop]
theorem sqs_mono : ∀ {l m : List Nat}, l.length = m.length → (∀ i (h : i < l.length) (h' : i < m.length), l[i] ≤ m[i]) → sqs l ≤ sqs m
  | [], [], _, _ => Nat.le_refl _
  | x :: l, y :: m, hl, h => by
    rw [sqs_cons, sqs_cons]
    have h0 : x ≤ y := h 0 zi zi
    have := Nat.pow_le_pow_left h0 2
    have := sqs_mono (l := l) (m := m) (by simpa using hl) fun i h1 h2 => h (i + 1) (by simp; omega) (by simp; omega)
    omega
end Go.Num
namespace Go.Num
theorem phi_eq {n p q r : Nat} (hq : 0 < q) (h1 : n ^ p * 10 ^ (12 * q) ≤ r ^ q * 10 ^ (12 * p)) (h2 : r = 0 ∨ (r - 1) ^ q * 10 ^ (12 * p) < n ^ p * 10 ^ (12 * q)) : phi n p q = r := by
  refine Nat.le_antisymm (phi_le hq h1) ?_
  rcases h2 with h | h
  · omega
  · rcases Nat.lt_or_ge (phi n p q) r with h3 | h3
    · have a := phi_spec hq n p
      have b : phi n p q ^ q * 10 ^ (12 * p) ≤ (r - 1) ^ q * 10 ^ (12 * p) := pow_mul_mono zo
      omega
    · exact h3
def cert (lo hi a b p q : Nat) : Bool :=
  decide (lo ≤ hi) && (decide (hi ≤ 10 ^ 18) && (decide (1 ≤ p) && (decide (p ≤ 36) && (decide (1 ≤ q) && (decide (q ≤ 12) && (decide (a ≤ b) && (decide (b ≤ 10 ^ 18) && (decide (a ^ q * 10 ^ (12 * p) ≤ lo ^ p * 10 ^ (12 * q)) &&
  (decide (lo ^ p * 10 ^ (12 * q) < (a + 1) ^ q * 10 ^ (12 * p)) && (decide (hi ^ p * 10 ^ (12 * q) ≤ b ^ q * 10 ^ (12 * p)) && decide (b = 0 ∨ (b - 1) ^ q * 10 ^ (12 * p) < hi ^ p * 10 ^ (12 * q))))))))))))
def certB (lo hi p q : Nat) : Bool :=
  decide (lo ≤ hi) && (decide (hi ≤ 10 ^ 18) && (decide (1 ≤ p) && (decide (p ≤ 36) && (decide (1 ≤ q) && (decide (q ≤ 12) && decide ((10 ^ 18 + 1) ^ q * 10 ^ (12 * p) ≤ hi ^ p * 10 ^ (12 * q)))))))
theorem cert_out {lo hi a b p q : Nat} (h : cert lo hi a b p q = true) : lo ≤ hi ∧ hi ≤ 10 ^ 18 ∧ 1 ≤ p ∧ p ≤ 36 ∧ 1 ≤ q ∧ q ≤ 12 ∧ a ≤ b ∧ b ≤ 10 ^ 18 ∧ endV lo p q false = ((a : Int), 0) ∧ endV hi p q true = ((b : Int), 0) := by
  unfold cert at h
  simp only [Bool.and_eq_true, decide_eq_true_eq] at h
  obtain ⟨h1, h2, h3, h4, h5, h6, h7, h8, h9, h10, h11, h12⟩ := h
  have ea := plo_eq (n := lo) (p := p) (r := a) h5 h9 h10
  have eb := phi_eq (n := hi) (p := p) (r := b) h5 h11 h12
  have hb := (phi_bounds hi p q).1
  refine ⟨h1, h2, h3, h4, h5, h6, h7, h8, ?_, ?_⟩
  · unfold endV
    rw [if_pos zo, if_neg zi, ea]
  · unfold endV
    rw [if_pos zo, if_pos rfl, eb]
theorem certB_out {lo hi p q : Nat} (h : certB lo hi p q = true) : lo ≤ hi ∧ hi ≤ 10 ^ 18 ∧ 1 ≤ p ∧ p ≤ 36 ∧ 1 ≤ q ∧ q ≤ 12 ∧ ∀ up, endV hi p q up = (0, 6) := by
  unfold certB at h
  simp only [Bool.and_eq_true, decide_eq_true_eq] at h
  obtain ⟨h1, h2, h3, h4, h5, h6, h7⟩ := h
  refine ⟨h1, h2, h3, h4, h5, h6, fun up => ?_⟩
  have := le_plo (n := hi) (p := p) h5 h7
  unfold endV
  rw [if_neg zo]
def blo (b : Int × Int) : Nat := (max b.1 (max (-b.2) 0)).toNat
def bhi (b : Int × Int) : Nat := (max (-b.1) b.2).toNat
def nrmV (l : List Nat) (up : Bool) : Int × Int := if nlo l ≤ 10 ^ 18 then (((if up then nhi l else nlo l : Nat) : Int), 0) else (0, 6)
theorem nrmV_up {l : List Nat} {up : Bool} (h : nlo l ≤ 10 ^ 18) : nrmV l up = (((nlo l : Nat) : Int) + (if (up && !(decide (nlo l ^ 2 = sqs l))) then 1 else 0), 0) := by
  unfold nrmV nhi
  rw [if_pos h]
  by_cases e : nlo l ^ 2 = sqs l <;> cases up <;> simp [e]
end Go.Num
namespace Go.Fra
open Go Go.RowKit Go.Num Go.Mem
def Bds (w : World) (_T : TypeId) (v : Value) (l : List (Int × Int)) : Prop :=
  ∃ a cap, v = .slice a l.length cap ∧ l.length ≤ cap ∧ cap ≤ 9223372036854775807 ∧ ∀ k (_ : k < l.length), ∃ b off, a = some ⟨b, off, none⟩ ∧ b < w.heap.size ∧ w.cell? ⟨b, off + k * 2, none⟩ = some (.int .i64 l[k].1) ∧ w.cell? ⟨b, off + k * 2 + 1, none⟩ = some (.int .i64 l[k].2)
theorem Bds.later {w w' : World} {T : TypeId} {v : Value} {l : List (Int × Int)} (h : Bds w T v l) (hb : Below w.heap.size w w') : Bds w' T v l := by
  obtain ⟨a, cap, h1, h2, h3, h4⟩ := h
  refine ⟨a, cap, h1, h2, h3, fun k hk => ?_⟩
  obtain ⟨b, off, h5, h6, h7, h8⟩ := h4 k hk
  exact ⟨b, off, h5, Nat.lt_of_lt_of_le h6 hb.size, (hb.cell (p := ⟨b, off + k * 2, none⟩) h6).trans h7, (hb.cell (p := ⟨b, off + k * 2 + 1, none⟩) h6).trans h8⟩
theorem Bds.read {w : World} {T : TypeId} {v : Value} {l : List (Int × Int)} (h : Bds w T v l) :
    ∃ a cap, v = .slice a l.length cap ∧ l.length ≤ cap ∧ cap ≤ 9223372036854775807 ∧ ∀ k (_ : k < l.length), ∃ b off, a = some ⟨b, off, none⟩ ∧ b < w.heap.size ∧ w.cell? ⟨b, off + k * 2, none⟩ = some (.int .i64 l[k].1) ∧ w.cell? ⟨b, off + k * 2 + 1, none⟩ = some (.int .i64 l[k].2) := h
theorem Bds.of_box {w : World} {T : TypeId} {b n c : Nat} {arr : Array Value} {l : List (Int × Int)} (h : Box w b arr T) (hn : l.length = n) (hc : n ≤ c) (hm : c ≤ 9223372036854775807) (k : ∀ i (h : i < l.length), arr[i * 2]? = some (.int .i64 l[i].1) ∧ arr[i * 2 + 1]? = some (.int .i64 l[i].2)) : Bds w T (.slice (some ⟨b, 0, none⟩) n c) l := by
  subst hn
  refine ⟨_, _, rfl, hc, hm, fun i hi => ⟨b, 0, rfl, h.lt, ?_, ?_⟩⟩
  · rw [h.cell, Nat.zero_add]; exact (k i hi).1
  · rw [h.cell, Nat.zero_add]; exact (k i hi).2
def okB (l : List (Int × Int)) : Bool := l.all fun b => Go.Proofs.band.bok b.1 b.2
theorem Bds.one {w : World} {T : TypeId} {b : Nat} {lo hi : Int} (h : Box w b #[.int .i64 lo, .int .i64 hi] T) : Bds w T (.slice (some ⟨b, 0, none⟩) 1 1) [(lo, hi)] :=
  Bds.of_box h rfl (Nat.le_refl _) zo fun i hi => by
    have : i < 1 := hi
    obtain rfl : i = 0 := by omega
    exact ⟨rfl, rfl⟩
theorem Bds.two {w : World} {T : TypeId} {b : Nat} {x1 x2 x3 x4 : Int} (h : Box w b #[.int .i64 x1, .int .i64 x2, .int .i64 x3, .int .i64 x4] T) : Bds w T (.slice (some ⟨b, 0, none⟩) 2 2) [(x1, x2), (x3, x4)] :=
  Bds.of_box h rfl (Nat.le_refl _) zo fun i hi => by
    have : i < 2 := hi
    obtain rfl | rfl : i = 0 ∨ i = 1 := by omega
    · exact ⟨rfl, rfl⟩
    · exact ⟨rfl, rfl⟩
end Go.Fra
namespace Go.Proofs.band
open Go Go.RowKit Go.SW Go.Num Go.Mem Go.Proofs Go.Fra
def madeE (lo hi : Int) : (Int × Int) × Int := if bok lo hi then ((lo, hi), 0) else ((0, 0), 6)
theorem made_ok (lo hi : Int) (w : World) : Calls Tryz.prog 86 #[.int .i64 lo, .int .i64 hi] w (fun e w' => e = .returned (bndV (madeE lo hi)) ∧ Below w.heap.size w w') := by
  have H := zh (fun W => valid_ok lo hi W)
  unfold madeE
  generalize bok lo hi = b at *
  unfold bndV
  cases b
  all_goals
    go_enter Tryz.func86, Tryz.ntmps86
    go_wp2_with fail
    refine (H.out _).mono ?_
    rintro e w1 ⟨rfl, hb1⟩
    have hx := Box.later (Box.new w #[.int .i64 0, .int .i64 0] 23) hb1
    have cx := hx.cell
    have fx := hx.free
    have lx := hx.lt
    have hw := Bt (show Below w.heap.size w (w.alloc (.cells #[.int .i64 0, .int .i64 0] 23)) from belA) hb1
    go_wp2_with fail
    refine ret_ct rfl rfl boxA Tryz.underlying23 rfl zk ?_
    exact ⟨rfl, belA⟩
theorem Max_ok (b c : Nat) (zs : List Int) (z0 : Int) (h0 : zs[0]? = some z0) (arr : Array Value) (T : TypeId) (w : World) (hx : Box w b arr T) (hc : ∀ j (h : j < zs.length), arr[j]? = some (.int .i64 zs[j])) (hl : zs.length ≤ 9223372036854775807) :
    Calls Tryz.prog 132 #[.slice (some ⟨b, 0, none⟩) zs.length c] w (fun e w' => e = .returned (.int .i64 (zs.foldl max z0)) ∧ Below w.heap.size w w') := by
  have hn : 0 < zs.length := by
    rcases Nat.eq_zero_or_pos zs.length with h | h
    · rw [List.getElem?_eq_none zo] at h0
      cases h0
    · exact h
  have hz0 : zs[0] = z0 := by
    rw [List.getElem?_eq_getElem hn] at h0
    exact Option.some.inj h0
  have h00 : w.cell? ⟨b, 0, none⟩ = some (.int .i64 z0) := by
    rw [hx.cell, hc 0 hn, hz0]
  have lb := hx.lt
  have g1 : decide ((zs.length : Int) < 1) = false := by simp; omega
  have HX := zh hx
  have HC := zh hc
  clear hx hc
  go_enter Tryz.func132, Tryz.ntmps132
  go_wp2_with fail
  go_loopw [3, 4] (fun m i wr => ∃ k : Nat, 0 < k ∧ k ≤ zs.length ∧ i = .int .i64 (k : Int) ∧ m = .int .i64 ((zs.take k).foldl max z0) ∧ Below w.heap.size w wr) (fun _ i _ => zs.length - (intOf i).toNat)
  case atStart =>
    refine ⟨1, by omega, hn, rfl, ?_, Below.refl _ _⟩
    cases zs with
    | nil => simp at hn
    | cons x t =>
      simp only [List.getElem_cons_zero] at hz0
      subst hz0
      simp
  case round =>
    obtain ⟨k, hk0, hk, rfl, rfl, hb⟩ := hrel
    by_cases hlt : k < zs.length
    · have hcell := ((HX.out.later hb).cell k).trans (HC.out k hlt)
      have hstep : (zs.take (k + 1)).foldl max z0 = max ((zs.take k).foldl max z0) zs[k] := by
        rw [List.take_succ_eq_append_getElem hlt, List.foldl_append]
        rfl
      have HS := zh hstep
      clear hstep
      generalize zs[k] = zk at *
      generalize (zs.take k).foldl max z0 = mk at *
      go_wp2_with fail
      go_roundw
      case rel => exact ⟨k + 1, by omega, by omega, by go_num, by rw [HS.out] <;> go_num, hb⟩
      case measure => exact zM
    · obtain rfl : k = zs.length := by omega
      rw [List.take_length]
      go_wp2_with fail
      go_ret
      exact ⟨rfl, hb⟩
theorem greatest_ok (b c : Nat) (zs : List Int) (z0 : Int) (h0 : zs[0]? = some z0) (arr : Array Value) (T : TypeId) (w : World) (hx : Box w b arr T) (hc : ∀ j (h : j < zs.length), arr[j]? = some (.int .i64 zs[j])) (hl : zs.length ≤ 9223372036854775807) :
    Calls Tryz.prog 88 #[.slice (some ⟨b, 0, none⟩) zs.length c] w (fun e w' => e = .returned (.int .i64 (zs.foldl max z0)) ∧ Below w.heap.size w w') := by
  have H := zh (Max_ok b c zs z0 h0 arr T w hx hc hl)
  clear h0 hx hc hl
  generalize zs.length = n at *
  generalize zs.foldl max z0 = z at *
  go_enter Tryz.func88, Tryz.ntmps88
  go_wp2_with fail
  refine H.out.mono ?_
  rintro e w1 ⟨rfl, hb1⟩
  go_wp2_with fail
  go_ret
  exact ⟨rfl, hb1⟩
theorem checked_ok (F : FuncId) (free : Array Value) (z : (Int × Int) × Int) (T : TypeId) (v : Value) (l : List (Int × Int)) (w : World) (hv : Bds w T v l)
    (h1 : okB l = true → ∀ W, Below w.heap.size w W → Calls Tryz.prog F free W (fun e w' => e = .returned (bndV z) ∧ Below W.heap.size W w'))
    (hen : ∀ args W, (callFunc F args).run Tryz.prog W = .ok (.enter F args) W) :
    Calls Tryz.prog 84 #[.func (.func F) #[] free, v] w (fun e w' => e = .returned (bndV (if okB l then z else ((0, 0), 30))) ∧ Below w.heap.size w w') := by
  obtain ⟨a, cap, rfl, hc1, hc2, hread⟩ := hv.read
  have HR := zh hread
  have H1 := zh h1
  clear h1 hv hread
  obtain ⟨z', EZ⟩ : ∃ y, (if okB l then z else ((0, 0), 30)) = y := ⟨_, rfl⟩
  rw [EZ]
  have HZ := zh EZ
  clear EZ
  obtain ⟨⟨z1, z2⟩, z3⟩ := z'
  unfold bndV at *
  simp only at *
  go_enter Tryz.func84, Tryz.ntmps84
  go_wp2_with fail
  obtain ⟨wx, EW, hz, R⟩ := al1 w #[.int .i64 0, .int .i64 0] 23
  rw [EW]
  clear EW
  have HB := zh hz
  clear hz
  obtain ⟨bx, eb⟩ : ∃ y, w.heap.size = y := ⟨_, rfl⟩
  rw [eb] at R ⊢
  go_wp2_with fail
  go_loopw [11] (fun iv wr => ∃ k : Nat, iv = .int .i64 (k : Int) ∧ k ≤ l.length ∧ Hid (∀ j (h : j < l.length), j < k → bok l[j].1 l[j].2 = true) ∧ Below wx.heap.size wx wr) (fun iv _ => l.length - (intOf iv).toNat)
  case atStart => exact ⟨0, rfl, by omega, zh (fun j _ h => by omega), Below.refl _ _⟩
  case round =>
    obtain ⟨k, rfl, hk, HK, hb⟩ := hrel
    rcases Nat.lt_or_ge k l.length with hlt | hge
    · obtain ⟨b, off, rfl, hbl, hx1, hx2⟩ := HR.out k hlt
      have hB := Bt HB.out hb
      have hc1 := (hB.cell (p := ⟨b, off + k * 2, none⟩) hbl).trans hx1
      have hc2 := (hB.cell (p := ⟨b, off + k * 2 + 1, none⟩) hbl).trans hx2
      clear hx1 hx2
      have HV := zh (fun W => valid_ok l[k].1 l[k].2 W)
      obtain ⟨bk, EK⟩ : ∃ y, bok l[k].1 l[k].2 = y := ⟨_, rfl⟩
      have HE := zh EK
      rw [EK] at HV
      clear EK
      generalize hlk : l[k] = lk at *
      have HLK := zh hlk
      clear hlk
      obtain ⟨y1, y2⟩ := lk
      simp only at *
      replace R := R.bl hb
      go_wp2_with fail
      obtain ⟨wy, EW, hz, Y⟩ := al1 wr #[.int .i64 y1, .int .i64 y2] 23
      rw [EW]
      clear EW
      refine (HV.out _).mono ?_
      rintro e w1 ⟨rfl, hb1⟩
      have hw := Bt hb (Bt hz hb1)
      replace R := (R.bl hz).bl hb1
      clear hc1 hc2 hz hb1 Y HV
      cases bk
      · have hx := R.out
        have cx := hx.cell
        have fx := hx.free
        have lx := hx.lt
        go_wp2_with fail
        refine ret_ct rfl rfl boxA Tryz.underlying23 rfl zk ?_
        have hno : okB l = false := by
          unfold okB
          rw [List.all_eq_false]
          refine ⟨l[k], List.getElem_mem _, ?_⟩
          rw [HLK.out, HE.out]
          simp
        have he := HZ.out
        rw [hno] at he
        cases he
        have hB2 := Bt HB.out hw
        exact ⟨rfl, belA⟩
      · go_wp2_with fail
        go_roundw
        case rel =>
          refine ⟨k + 1, by go_num, by omega, zh fun j hj hjk => ?_, hw⟩
          rcases Nat.lt_or_ge j k with h | h
          · exact HK.out j hj h
          · obtain rfl : j = k := by omega
            rw [HLK.out, HE.out]
        case measure => exact zM
    · obtain rfl : k = l.length := by omega
      have hyes : okB l = true := by
        unfold okB
        rw [List.all_eq_true]
        intro x hx
        obtain ⟨j, hj, rfl⟩ := List.getElem_of_mem hx
        exact HK.out j hj hj
      have he := HZ.out
      rw [if_pos hyes] at he
      subst he
      have HH := zh (H1.out hyes)
      simp only at HH
      clear hyes H1
      replace R := R.bl hb
      have hB := Bt HB.out hb
      go_wp2_with fail
      refine (HH.out _ hB).mono ?_
      rintro e w1 ⟨rfl, hb1⟩
      have hw := Bt hB hb1
      replace R := R.bl hb1
      have hx := R.out
      have cx := hx.cell
      have fx := hx.free
      have lx := hx.lt
      clear hb1
      go_wp2_with fail
      refine ret_ct rfl rfl boxA Tryz.underlying23 rfl zk ?_
      exact ⟨rfl, belA⟩
def absE (lo hi : Int) : (Int × Int) × Int := if bok lo hi then madeE (max (max lo (-hi)) 0) (max (-lo) hi) else ((0, 0), 30)
def negE (lo hi : Int) : (Int × Int) × Int := if bok lo hi then madeE (-hi) (-lo) else ((0, 0), 30)
theorem Neg1_ok (lo hi : Int) (h0 : bok lo hi = true) (b : Nat) (w : World) (h : Box w b #[.int .i64 lo, .int .i64 hi] 23) : Calls Tryz.prog 85 #[.pointer (some ⟨b, 0, none⟩)] w (fun e w' => e = .returned (bndV (madeE (-hi) (-lo))) ∧ Below w.heap.size w w') := by
  obtain ⟨hk1, hk2, hk3⟩ : -1000000000000000000 ≤ lo ∧ lo ≤ hi ∧ hi ≤ 1000000000000000000 := by simpa [bok] using h0
  have H := zh (fun W => made_ok (-hi) (-lo) W)
  generalize madeE (-hi) (-lo) = z at *
  obtain ⟨⟨z1, z2⟩, z3⟩ := z
  unfold bndV at *
  simp only at *
  have cb := h.cell
  have lb := h.lt
  clear h h0
  go_enter Tryz.func85, Tryz.ntmps85
  go_wp2_with fail
  refine (H.out _).mono ?_
  rintro e w1 ⟨rfl, hb1⟩
  have hx := Box.later (Box.new w #[.int .i64 0, .int .i64 0] 23) hb1
  have cx := hx.cell
  have fx := hx.free
  have lx := hx.lt
  have hw := Bt (show Below w.heap.size w (w.alloc (.cells #[.int .i64 0, .int .i64 0] 23)) from belA) hb1
  go_wp2_with fail
  refine ret_ct rfl rfl boxA Tryz.underlying23 rfl zk ?_
  exact ⟨rfl, belA⟩
theorem Abs1_ok (lo hi : Int) (h0 : bok lo hi = true) (b : Nat) (w : World) (h : Box w b #[.int .i64 lo, .int .i64 hi] 23) : Calls Tryz.prog 87 #[.pointer (some ⟨b, 0, none⟩)] w (fun e w' => e = .returned (bndV (madeE (max (max lo (-hi)) 0) (max (-lo) hi))) ∧ Below w.heap.size w w') := by
  obtain ⟨hk1, hk2, hk3⟩ : -1000000000000000000 ≤ lo ∧ lo ≤ hi ∧ hi ≤ 1000000000000000000 := by simpa [bok] using h0
  have H := zh (fun W => made_ok (max (max lo (-hi)) 0) (max (-lo) hi) W)
  have G1 : Hid (∀ W c, Box W c #[.int .i64 lo, .int .i64 (-hi), .int .i64 0] 3 → Calls Tryz.prog 88 #[.slice (some ⟨c, 0, none⟩) 3 3] W (fun e w' => e = .returned (.int .i64 (max (max lo (-hi)) 0)) ∧ Below W.heap.size W w')) := zh fun W c hc => by
    have := greatest_ok c 3 [lo, -hi, 0] lo rfl _ _ W hc (fun j hj => by
      have : j < 3 := hj
      have hj : j = 0 ∨ j = 1 ∨ j = 2 := by omega
      rcases hj with rfl | rfl | rfl <;> rfl) zi
    simpa using this
  have G2 : Hid (∀ W c, Box W c #[.int .i64 (-lo), .int .i64 hi] 3 → Calls Tryz.prog 88 #[.slice (some ⟨c, 0, none⟩) 2 2] W (fun e w' => e = .returned (.int .i64 (max (-lo) hi)) ∧ Below W.heap.size W w')) := zh fun W c hc => by
    have := greatest_ok c 2 [-lo, hi] (-lo) rfl _ _ W hc (fun j hj => by
      have : j < 2 := hj
      have hj : j = 0 ∨ j = 1 := by omega
      rcases hj with rfl | rfl <;> rfl) zi
    simpa using this
  generalize madeE (max (max lo (-hi)) 0) (max (-lo) hi) = z at *
  generalize max (max lo (-hi)) 0 = m1 at *
  generalize max (-lo) hi = m2 at *
  obtain ⟨⟨z1, z2⟩, z3⟩ := z
  unfold bndV at *
  simp only at *
  go_enter Tryz.func87, Tryz.ntmps87
  go_wp2_with fail
  obtain ⟨wx, EW, hz, R⟩ := al1 w #[.int .i64 0, .int .i64 0] 23
  rw [EW]
  clear EW
  have hcell : ∀ W, Below w.heap.size w W → ∀ o v, (#[Value.int .i64 lo, .int .i64 hi] : Array Value)[o]? = some v → W.cell? ⟨b, o, none⟩ = some v := fun W hW o v hv => ((h.later hW).cell o).trans hv
  have B := h.later hz
  have HB := zh hz
  clear hz h
  obtain ⟨bx, eb⟩ : ∃ y, w.heap.size = y := ⟨_, rfl⟩
  rw [eb] at R ⊢
  have cB := B.cell
  have lB := B.lt
  have R := R.out
  have n1 : -9223372036854775808 ≤ -hi := by omega
  have W : Hid (∀ a : Int, -1000000000000000000 ≤ a → a ≤ 1000000000000000000 → IntKind.i64.wrap (-a) = -a) := zh fun a h1 h2 => by rw [IntKind.wrap_i64]; omega
  have w1 := W.out hi zo hk3
  have w2 := W.out lo hk1 zo
  have hB0 := HB.out
  go_region_held (fun w' => w'.cell? ⟨b, 0, none⟩ = some (.int .i64 lo) ∧ w'.cell? ⟨b, 1, none⟩ = some (.int .i64 hi) ∧ Below w.heap.size w w')
    ((refine ⟨hcell _ ?_ 0 _ rfl, hcell _ ?_ 1 _ rfl, ?_⟩ <;> exact belA))
    (first
    | (go_at_call 88; first | (with_reducible refine (G1.out _ _ ?_).mono ?_; exact boxA; rintro e wa ⟨rfl, hba⟩; have Ra : Box wa bx #[.int .i64 0, .int .i64 0] 23 := boxA) | (with_reducible refine (G2.out _ _ ?_).mono ?_; exact boxA; rintro e wb ⟨rfl, hbb⟩; have Rb : Box wb bx #[.int .i64 0, .int .i64 0] 23 := boxA))
    | (go_at_call 86; refine (H.out _).mono ?_; rintro e wc ⟨rfl, hbc⟩; have hx : Box wc bx #[.int .i64 0, .int .i64 0] 23 := boxA; have cx := hx.cell; have fx := hx.free; have lx := hx.lt))
  all_goals
    go_wp2_with fail
    refine ret_ct rfl rfl boxA Tryz.underlying23 rfl zk ?_
    exact ⟨rfl, belA⟩
theorem Neg_ok (lo hi : Int) (w : World) : Calls Tryz.prog 37 #[.agg #[.int .i64 lo, .int .i64 hi]] w (fun e w' => e = .returned (bndV (negE lo hi)) ∧ Below w.heap.size w w') := by
  have H : Hid (∀ W b c, Box W b #[.int .i64 lo, .int .i64 hi] 23 → Box W c #[.int .i64 lo, .int .i64 hi] 23 → Calls Tryz.prog 84 #[.func (.func 85) #[] #[.pointer (some ⟨b, 0, none⟩)], .slice (some ⟨c, 0, none⟩) 1 1] W (fun e w' => e = .returned (bndV (negE lo hi)) ∧ Below W.heap.size W w')) := zh fun W b c h1 h2 => by
    have := checked_ok 85 #[.pointer (some ⟨b, 0, none⟩)] _ _ _ _ W (Bds.one h2) (fun h W' hW' => Neg1_ok lo hi (by simpa [okB] using h) b W' (h1.later hW')) (fun args W => by rfl)
    have e : okB [(lo, hi)] = bok lo hi := by simp [okB]
    rw [e] at this
    exact this
  generalize negE lo hi = z at *
  obtain ⟨⟨z1, z2⟩, z3⟩ := z
  unfold bndV at *
  simp only at *
  go_enter Tryz.func37, Tryz.ntmps37
  go_wp2_with fail
  obtain ⟨wx, EW, hz, X, R, Z⟩ := al3 w #[.int .i64 lo, .int .i64 hi] 23 #[.int .i64 0, .int .i64 0] 23 #[.int .i64 lo, .int .i64 hi] 23
  rw [EW]
  clear EW
  have HB := zh hz
  clear hz
  refine (H.out _ _ _ X.out Z.out).mono ?_
  rintro e w1 ⟨rfl, hb1⟩
  replace R := R.bl hb1
  replace HB := zh (Bt HB.out hb1)
  clear hb1 H
  have hx := R.out
  have cx := hx.cell
  have fx := hx.free
  have lx := hx.lt
  have hw := HB.out
  go_wp2_with fail
  refine ret_ct rfl rfl boxA Tryz.underlying23 rfl zk ?_
  exact ⟨rfl, belA⟩
theorem Abs_ok (lo hi : Int) (w : World) : Calls Tryz.prog 38 #[.agg #[.int .i64 lo, .int .i64 hi]] w (fun e w' => e = .returned (bndV (absE lo hi)) ∧ Below w.heap.size w w') := by
  have H : Hid (∀ W b c, Box W b #[.int .i64 lo, .int .i64 hi] 23 → Box W c #[.int .i64 lo, .int .i64 hi] 23 → Calls Tryz.prog 84 #[.func (.func 87) #[] #[.pointer (some ⟨b, 0, none⟩)], .slice (some ⟨c, 0, none⟩) 1 1] W (fun e w' => e = .returned (bndV (absE lo hi)) ∧ Below W.heap.size W w')) := zh fun W b c h1 h2 => by
    have := checked_ok 87 #[.pointer (some ⟨b, 0, none⟩)] _ _ _ _ W (Bds.one h2) (fun h W' hW' => Abs1_ok lo hi (by simpa [okB] using h) b W' (h1.later hW')) (fun args W => by rfl)
    have e : okB [(lo, hi)] = bok lo hi := by simp [okB]
    rw [e] at this
    exact this
  generalize absE lo hi = z at *
  obtain ⟨⟨z1, z2⟩, z3⟩ := z
  unfold bndV at *
  simp only at *
  go_enter Tryz.func38, Tryz.ntmps38
  go_wp2_with fail
  obtain ⟨wx, EW, hz, X, R, Z⟩ := al3 w #[.int .i64 lo, .int .i64 hi] 23 #[.int .i64 0, .int .i64 0] 23 #[.int .i64 lo, .int .i64 hi] 23
  rw [EW]
  clear EW
  have HB := zh hz
  clear hz
  refine (H.out _ _ _ X.out Z.out).mono ?_
  rintro e w1 ⟨rfl, hb1⟩
  replace R := R.bl hb1
  replace HB := zh (Bt HB.out hb1)
  clear hb1 H
  have hx := R.out
  have cx := hx.cell
  have fx := hx.free
  have lx := hx.lt
  have hw := HB.out
  go_wp2_with fail
  refine ret_ct rfl rfl boxA Tryz.underlying23 rfl zk ?_
  exact ⟨rfl, belA⟩
end Go.Proofs.band
namespace Go.Proofs.power
open Go Go.RowKit Go.Shelf Go.SW Go.Num Go.Mem Go.Proofs Go.Dec Go.Fra Go.Proofs.band
attribute [local go_sem] Oper.semAt_some
theorem absE_ok {lo hi : Int} (h : bok lo hi = true) : absE lo hi = ((((blo (lo, hi) : Nat) : Int), ((bhi (lo, hi) : Nat) : Int)), 0) := by
  obtain ⟨hk1, hk2, hk3⟩ : -1000000000000000000 ≤ lo ∧ lo ≤ hi ∧ hi ≤ 1000000000000000000 := by simpa [bok] using h
  unfold absE
  rw [if_pos h]
  have e1 : ((blo (lo, hi) : Nat) : Int) = max (max lo (-hi)) 0 := by
    unfold blo
    simp only
    omega
  have e2 : ((bhi (lo, hi) : Nat) : Int) = max (-lo) hi := by
    unfold bhi
    simp only
    omega
  rw [e1, e2]
  unfold madeE
  rw [if_pos]
  unfold bok
  simp only [Bool.and_eq_true, decide_eq_true_eq]
  omega
theorem bhi_le {b : Int × Int} (h : bok b.1 b.2 = true) : blo b ≤ bhi b ∧ bhi b ≤ 10 ^ 18 := by
  obtain ⟨hk1, hk2, hk3⟩ : -1000000000000000000 ≤ b.1 ∧ b.1 ≤ b.2 ∧ b.2 ≤ 1000000000000000000 := by simpa [bok] using h
  have h18 : (10 : Nat) ^ 18 = 1000000000000000000 := by decide
  rw [h18]
  unfold blo bhi
  omega
theorem below_grown {W W' : World} (h : Below W.heap.size W W') : W.grownBy W' none := ⟨h.os, h.tape, h.output, h.size, fun i hi _ => h.block i hi⟩
def encA (bs : List (Int × Int)) (k : Fin bs.length) : Array Value := #[.agg #[.int .i64 ((blo bs[k.1] : Nat) : Int), .int .i64 ((bhi bs[k.1] : Nat) : Int)]]
def upto {n : Nat} (k : Nat) (h : k ≤ n) : List (Fin n) := List.ofFn (n := k) fun i => ⟨i.1, Nat.lt_of_lt_of_le i.2 h⟩
theorem upto_succ {n k : Nat} (h : k + 1 ≤ n) : upto (k + 1) h = upto k zo ++ [⟨k, h⟩] := by
  unfold upto
  rw [List.ofFn_succ_last]
  rfl
theorem upto_length {n k : Nat} (h : k ≤ n) : (upto k h).length = k := by simp [upto]
theorem absolutes1_in (n : Nat) (hn : 1 ≤ n) (l Bs n₀ : Nat) (bs : List (Int × Int)) (hok : okB bs = true) (a : Option Addr) (cap : Nat) (J Jx : List (Fin bs.length) → World → Prop) (B₀ : Nat) (hJ0 : AbidesFrom B₀ J)
    (hY : ∀ pre x W, J pre W → pre.length < bs.length → YieldAt Fence.wide (n - 1) Tryz.prog l (encA bs x) W fun en W' =>
      (en = .returned (.bool true) ∧ J (pre ++ [x]) W' ∧ Below n₀ W W') ∨ (en = .returned (.bool false) ∧ Jx (pre ++ [x]) W'))
    (W : World) (hn₀ : n₀ ≤ W.heap.size) (hBs : W.cell? ⟨Bs, 0, none⟩ = some (.slice a bs.length cap)) (hlen : bs.length ≤ 9223372036854775807)
    (hread : ∀ k (_ : k < bs.length), ∃ b off, a = some ⟨b, off, none⟩ ∧ b < n₀ ∧ W.cell? ⟨b, off + k * 2, none⟩ = some (.int .i64 bs[k].1) ∧ W.cell? ⟨b, off + k * 2 + 1, none⟩ = some (.int .i64 bs[k].2)) (h0 : J [] W) :
    CallsIn Fence.wide n Tryz.prog 113 #[.func (.yield l) #[] #[], .pointer (some ⟨Bs, 0, none⟩)] W fun en W' => (∃ v, en = .returned v) ∧
      ((∃ ys, ys = upto bs.length (Nat.le_refl _) ∧ J ys W') ∨ (∃ pre, True ∧ Jx pre W')) := by
  have HR := zh hread
  have HY := zh hY
  have HJ := zh hJ0
  clear hread hY hJ0
  refine callsIn_of_wp Tryz.func113 rfl trivial ?_ rfl
  simp only [Tryz.ntmps113, List.size_toArray, List.length_cons, List.length_nil, Nat.reduceAdd, Nat.reduceSub, Array.replicate_succ, Array.replicate_zero, List.push_toArray, List.append_toArray, List.nil_append, List.cons_append]
  gi_wp2
  gi_loopw [9] (fun i wr => ∃ (k : Nat) (hk : k ≤ bs.length), i = .int .i64 k ∧ J (upto k hk) wr ∧ Below n₀ W wr)
    (fun i _ => bs.length - (intOf i).toNat)
  case atStart => exact ⟨0, Nat.zero_le _, rfl, h0, Below.refl _ _⟩
  case round =>
    obtain ⟨k, hk, rfl, hJs, hnx⟩ := hrel
    by_cases hlt : k < bs.length
    · obtain ⟨b, off, rfl, hbl, hx1, hx2⟩ := HR.out k hlt
      have hc1 := (hnx.cell (p := ⟨b, off + k * 2, none⟩) hbl).trans hx1
      have hc2 := (hnx.cell (p := ⟨b, off + k * 2 + 1, none⟩) hbl).trans hx2
      clear hx1 hx2
      have hv : bok bs[k].1 bs[k].2 = true := by
        unfold okB at hok
        exact List.all_eq_true.1 hok _ (List.getElem_mem hlt)
      have HA := zh (fun W => Abs_ok bs[k].1 bs[k].2 W)
      rw [absE_ok hv] at HA
      have HYK := zh (fun W1 hJ1 => HY.out (upto k hk) ⟨k, hlt⟩ W1 hJ1 (by rw [upto_length]; exact hlt))
      unfold encA at HYK
      unfold bndV at HA
      simp only at HA HYK
      have e0 : bs[k] = (bs[k].1, bs[k].2) := rfl
      rw [← e0] at HA
      have HB := zh hbl
      clear hv e0 hbl
      generalize bs[k].1 = y1 at *
      generalize bs[k].2 = y2 at *
      generalize ((blo bs[k] : Nat) : Int) = z1 at *
      generalize ((bhi bs[k] : Nat) : Int) = z2 at *
      gi_wp2_with (refine ⟨trivial, ?_⟩; gi_at_call 38; refine (callsIn_wide.2 (HA.out _)).mono ?_; rintro e w1 ⟨rfl, hc3⟩; have hJ1 : J (upto k hk) (w1.alloc (.cells #[.int .i64 z1, .int .i64 z2] 23)) := HJ.out _ _ _ none (HJ.out _ _ _ none (HJ.out _ _ _ none hJs (World.grownBy_alloc _ _ none) (fun r e => by cases e)) (below_grown hc3) (fun r e => by cases e)) (World.grownBy_alloc _ _ none) (fun r e => by cases e); have hB1 : Below n₀ W (w1.alloc (.cells #[.int .i64 z1, .int .i64 z2] 23)) := ((hnx.alloc (Nat.le_trans hn₀ hnx.size) _).trans (hc3.mono (Nat.le_trans hn₀ (Nat.le_trans hnx.size zi)))).alloc (Nat.le_trans hn₀ (Nat.le_trans hnx.size (Nat.le_trans zi hc3.size))) _; obtain ⟨fn, tmps, assign, body, hy, hR⟩ := HYK.out _ hJ1; have hy2 : (Instr.yield l #[Value.agg #[Value.int IntKind.i64 z1, Value.int IntKind.i64 z2]]).run Tryz.prog (w1.alloc (.cells #[.int .i64 z1, .int .i64 z2] 23)) = _ := hy; clear hy)
      refine hR.mono ?_
      rintro e W3 (⟨rfl, hJ3, hk3⟩ | ⟨rfl, hJx3⟩)
      · gi_wp2
        go_roundw
        case rel => exact ⟨k + 1, hlt, by simp, by rw [upto_succ]; exact hJ3, hB1.trans hk3⟩
        case measure => exact zM
      · gi_wp2
        refine bodyPost_ret (results_none rfl _ _ _) rfl ?_
        exact ⟨⟨_, rfl⟩, .inr ⟨_, trivial, hJx3⟩⟩
    · obtain rfl : k = bs.length := by omega
      have hge : ¬ bs.length < bs.length := by omega
      have hge2 : decide ((bs.length : Int) < (bs.length : Int)) = false := by simp
      gi_wp2
      go_end0
      exact ⟨⟨_, rfl⟩, .inl ⟨_, rfl, hJs⟩⟩
theorem absolutes_in (n : Nat) (a : Option Addr) (len cap : Nat) (w : World) :
    CallsIn Fence.wide n Tryz.prog 65 #[.slice a len cap] w fun e w' => e = .returned (.func (.func 113) #[] #[.pointer (some ⟨w.heap.size, 0, none⟩)]) ∧ w' = w.alloc (.cells #[.slice a len cap] 55) := by
  refine callsIn_of_wp Tryz.func65 rfl trivial ?_ rfl
  simp only [Tryz.ntmps65, List.size_toArray, List.length_cons, List.length_nil, Nat.reduceAdd, Nat.reduceSub, Array.replicate_succ, Array.replicate_zero, List.push_toArray, List.append_toArray, List.nil_append, List.cons_append]
  gi_wp2
  go_ret
  exact ⟨rfl, rfl⟩
theorem absolutes_stops (n : Nat) (hn : 1 ≤ n) (Bs n₀ : Nat) (sv : Value) (T : TypeId) (bs : List (Int × Int)) (hok : okB bs = true) (w0 w : World) (hBs : Bs < w.heap.size) (hn₀ : n₀ ≤ w.heap.size)
    (hc : w.cell? ⟨Bs, 0, none⟩ = some sv) (hR : Bds w0 T sv bs) (h0 : w0.heap.size ≤ n₀) (hb : Below w0.heap.size w0 w) :
    SeqStopsK Fence.wide n Tryz.prog 113 #[.pointer (some ⟨Bs, 0, none⟩)] (encA bs) (Below n₀) (fun ys => ys = upto bs.length (Nat.le_refl _)) (fun _ => True) bs.length w := fun l J Jx W hW hJ _ hY hJ0 => by
  obtain ⟨a, cap, rfl, h1, h2, h3⟩ := hR.read
  have hc' := (hW.cell (p := ⟨Bs, 0, none⟩) hBs).trans hc
  have hB := hb.trans (hW.mono (Nat.le_trans h0 hn₀))
  refine absolutes1_in n hn l Bs n₀ bs hok a cap J Jx _ hJ hY W (Nat.le_trans hn₀ hW.size) hc' zo (fun k hk => ?_) hJ0
  obtain ⟨b, off, h4, h5, h6, h7⟩ := h3 k hk
  exact ⟨b, off, h4, Nat.lt_of_lt_of_le h5 h0, (hB.cell (p := ⟨b, _, none⟩) h5).trans h6, (hB.cell (p := ⟨b, _, none⟩) h5).trans h7⟩
end Go.Proofs.power
namespace Go
theorem stepR_scope {P : Program} {b : Frame} {a : Act} {k : List Item} {cs : List Frame} {w : World} {c : Code} : step P (lone (b.atR a (.code (.scope c) :: k)) cs w) = .next (lone (b.atR a (.code c :: .inScope c :: k)) cs w) :=
  step_lone_go (by simp [stepG, stepG.exec, Frame.atR])
theorem stepR_inScope {P : Program} {b : Frame} {a : Act} {k : List Item} {cs : List Frame} {w : World} {c : Code} : step P (lone (b.atR a (.inScope c :: k)) cs w) = .next (lone (b.atR a k) cs w) :=
  step_lone_go (by simp [stepG, stepG.exec, Frame.atR])
theorem wpIn_scope {F : Fence} {n : Nat} {P : Program} {Q : Exit → Act → World → Prop} {a : Act} {w : World} {c : Code} (h : c.wpIn F n P (Exit.noGoto Q) a w) : (Code.scope c).wpIn F n P Q a w := by
  intro b k cs hro hb hr
  have h0 : (lone (b.atR a (.code (.scope c) :: k)) cs w).fenced P F := fenced_calm hb hr rfl
  obtain ⟨e, a₁, w₁, hq, harr⟩ := h b (.inScope c :: k) cs hro hb hr
  cases e with
  | normal => exact ⟨.normal, a₁, w₁, hq, .head h0 stepR_scope (StepsIn.trans harr (.one (fenced_calm hb hr rfl) stepR_inScope))⟩
  | exit id =>
    have hx : exitTo id (.inScope c :: k) = exitTo id k := by simp [exitTo]
    exact ⟨.exit id, a₁, w₁, hq, fun k' hk => .head h0 stepR_scope (harr.1 k' (by rw [hx]; exact hk)),
      fun hr' hk => let ⟨k₁, h1, h2⟩ := harr.2 hr' (by rw [hx]; exact hk); ⟨k₁, h1, .head h0 stepR_scope h2⟩⟩
  | goto l => exact hq.elim
  | ret => exact ⟨_, a₁, w₁, hq, .of_steps (.one h0 stepR_scope) harr⟩
  | panic ch => exact ⟨_, a₁, w₁, hq, .of_steps (.one h0 stepR_scope) harr⟩
  | outgrown => exact ⟨_, a₁, w₁, hq, .of_steps (.one h0 stepR_scope) harr⟩
end Go
namespace Go.Mem
open Go Go.RowKit Go.SW Go.Num
def Nm (w : World) (v : Value) (n : Nat) : Prop := Row w 3 v (ints (digs 10000 n))
theorem Nm.later {w w' : World} {v : Value} {n : Nat} (h : Nm w v n) (hb : Below w.heap.size w w') : Nm w' v n := Row.later h hb
theorem Nm.setOther {w : World} {v : Value} {n : Nat} (h : Nm w v n) {b : Nat} {cs : Array Value} {T' : TypeId} (hx : Box w b cs T') (hT : 3 ≠ T') (o : Nat) (u : Value) : Nm (w.setCell ⟨b, o, none⟩ u) v n := Row.setOther h hx hT o u
def Gs (w : World) (v : Value) (l : List Nat) : Prop := Row w 3 v (ints l)
theorem Gs.later {w w' : World} {v : Value} {l : List Nat} (h : Gs w v l) (hb : Below w.heap.size w w') : Gs w' v l := Row.later h hb
theorem Gs.cases {w : World} {v : Value} {l : List Nat} (h : Gs w v l) :
    (v = .slice none 0 0 ∧ l = []) ∨ ∃ b off cap, v = .slice (some ⟨b, off, none⟩) l.length cap ∧ l.length ≤ cap ∧ cap ≤ 9223372036854775807 ∧ b < w.heap.size ∧ (∃ arr, Box w b arr 3) ∧ ∀ i, i < l.length → w.cell? ⟨b, off + i, none⟩ = some (.int .i64 (l.getD i 0 : Nat)) := by
  rcases Row.cases h with ⟨h1, h2⟩ | ⟨b, off, cap, arr, h1, h2, h3, h4, h5⟩
  · refine .inl ⟨h1, ?_⟩
    unfold ints at h2
    simpa using h2
  · refine .inr ⟨b, off, cap, by rw [h1, ints_length], by rwa [ints_length] at h2, h3, h4.lt, ⟨arr, h4⟩, fun i hi => ?_⟩
    rw [h4.cell, h5 i (by rw [ints_length]; exact hi)]
    simp [ints, hi]
theorem Gs.read {w : World} {v : Value} {l : List Nat} (h : Gs w v l) :
    ∃ a cap, v = .slice a l.length cap ∧ l.length ≤ cap ∧ cap ≤ 9223372036854775807 ∧ ∀ k, k < l.length → ∃ b off, a = some ⟨b, off, none⟩ ∧ b < w.heap.size ∧ w.cell? ⟨b, off + k, none⟩ = some (.int .i64 (l.getD k 0 : Nat)) := by
  rcases Gs.cases h with ⟨rfl, rfl⟩ | ⟨b, off, cap, rfl, h1, h2, h3, _, h5⟩
  · exact ⟨none, 0, rfl, by simp, by simp, fun k hk => by cases hk⟩
  · exact ⟨some ⟨b, off, none⟩, cap, rfl, h1, h2, fun k hk => ⟨b, off, rfl, h3, h5 k hk⟩⟩
theorem Nm.of_gs {w : World} {v : Value} {l : List Nat} (h : Gs w v l) (hd : Dig 10000 l) (ht : Top l) : Nm w v (val 10000 l) := by
  unfold Nm; rw [digs_val zo hd ht]; exact h
theorem Nm.gs {w : World} {v : Value} {n : Nat} (h : Nm w v n) : Gs w v (digs 10000 n) := h
theorem Gs.of_owns {w : World} {base k : Nat} {v : Value} {s : List Nat} (h : w.ownsRow base 3 1 v k (ints s)) : Gs w v s := Row.of_owns h
theorem made_ints (n : Nat) : (madeCells #[Value.int .i64 0] n).toList = ints (List.replicate n 0) := by
  rw [toList_madeCells_one]; simp [ints]
theorem ints_set (l : List Nat) (k d : Nat) : (ints l).set k (.int .i64 (d : Int)) = ints (l.set k d) := by simp [ints, List.map_set]
theorem ints_get {l : List Nat} {k : Nat} (h : k < l.length) : (ints l)[k]? = some (.int .i64 (l.getD k 0 : Nat)) := by simp [ints, h]
theorem Gs.of_box {w : World} {g n m : Nat} {l post : List Nat} (h : Box w g (ints (l ++ post)).toArray 3) (hl : l.length = n) (hm : n ≤ m) (hm2 : m ≤ 9223372036854775807) : Gs w (.slice (some ⟨g, 0, none⟩) n m) l := by
  refine Row.mk (by rw [ints_length]; omega) (by rw [ints_length]; omega) hm2 h fun i hi => ?_
  rw [ints_length] at hi
  rw [Nat.zero_add, List.getElem?_toArray]
  simp [ints, hi, List.getElem?_append_left]
theorem Nm.lit {w : World} {d : Nat} (h0 : 0 < d) (h1 : d < 10000) : Nm (w.alloc (.cells #[.int .i64 d] 3 (0, 0))) (.slice (some ⟨w.heap.size, 0, none⟩) 1 1) d := by
  have e : digs 10000 d = [d] := by rw [digs_pos zo h0, Nat.mod_eq_of_lt h1, Nat.div_eq_of_lt h1, digs_zero]
  unfold Nm
  rw [e]
  refine Row.mk rfl (by simp [ints]) zo (Box.new _ _ _) fun i hi => ?_
  match i, hi with
  | 0, _ => rfl
theorem Nm.zero (w : World) : Nm w (.slice none 0 0) 0 := by unfold Nm; rw [digs_zero]; exact Row.nil _ _
theorem ints_oneCell (l : List Nat) : ∀ v ∈ ints l, v.oneCell' = true := fun v hv => by
  obtain ⟨d, _, rfl⟩ := List.mem_map.1 hv; rfl
theorem Gs.src {w : World} {a : Option Addr} {l : List Nat} (h : ∀ k, k < l.length → ∃ b off, a = some ⟨b, off, none⟩ ∧ b < w.heap.size ∧ w.cell? ⟨b, off + k, none⟩ = some (.int .i64 (l.getD k 0 : Nat))) (hl : 0 < (ints l).length) :
    ∃ ad, a = some ad ∧ ∀ j v, (ints l)[j]? = some v → w.cell? (ad.add j) = some v := by
  rw [ints_length] at hl
  obtain ⟨b, off, rfl, _, _⟩ := h 0 hl
  refine ⟨_, rfl, fun j v hv => ?_⟩
  have hj : j < l.length := by
    have := (List.getElem?_eq_some_iff.1 hv).1; rwa [ints_length] at this
  obtain ⟨b', off', h1, _, h3⟩ := h j hj
  simp only [Option.some.injEq, Addr.mk.injEq, and_true] at h1
  obtain ⟨rfl, rfl⟩ := h1
  rw [ints_get hj] at hv
  rw [Addr.add_lit, h3, ← hv]
theorem Nm.slice {w : World} {v : Value} {n : Nat} (h : Nm w v n) : ∃ pa l ca, v = .slice pa l ca := by
  obtain ⟨a, cap, h1, -⟩ := h
  exact ⟨_, _, _, h1⟩
def Pl (w : World) (v : Value) (z : Int) : Prop := ∃ pa l ca, v = .agg #[.bool (decide (z < 0)), .slice pa l ca] ∧ Nm w (.slice pa l ca) z.natAbs
theorem Pl.later {w w' : World} {v : Value} {z : Int} (h : Pl w v z) (hb : Below w.heap.size w w') : Pl w' v z := by
  obtain ⟨pa, l, ca, h1, h2⟩ := h
  exact ⟨pa, l, ca, h1, h2.later hb⟩
theorem Pl.mk {w : World} {m : Value} {z : Int} {b : Bool} {n : Nat} (h : Nm w m n) (hn : n = z.natAbs) (hb : b = decide (z < 0)) : Pl w (.agg #[.bool b, m]) z := by
  obtain ⟨pa, l, ca, rfl⟩ := h.slice
  exact ⟨pa, l, ca, by rw [hb], hn ▸ h⟩
theorem Pl.cast {w : World} {v : Value} {y z : Int} (h : Pl w v y) (e : y = z) : Pl w v z := e ▸ h
theorem Nm.alloc {w : World} {v : Value} {n : Nat} (h : Nm w v n) (o : Obj) : Nm (w.alloc o) v n := h.later ((Below.refl _ _).alloc (Nat.le_refl _) _)
theorem Gs.alloc {w : World} {v : Value} {n : List Nat} (h : Gs w v n) (o : Obj) : Gs (w.alloc o) v n := h.later ((Below.refl _ _).alloc (Nat.le_refl _) _)
theorem Pl.agg {w : World} {v : Value} {z : Int} (h : Pl w v z) : ∃ b pa l ca, v = .agg #[.bool b, .slice pa l ca] := by
  obtain ⟨pa, l, ca, h1, -⟩ := h
  exact ⟨_, _, _, _, h1⟩
theorem Pl.setOther {w : World} {v : Value} {z : Int} (h : Pl w v z) {b : Nat} {cs : Array Value} {T' : TypeId} (hx : Box w b cs T') (hT : 3 ≠ T') (o : Nat) (u : Value) : Pl (w.setCell ⟨b, o, none⟩ u) v z := by
  obtain ⟨pa, l, ca, h1, h2⟩ := h
  exact ⟨pa, l, ca, h1, h2.setOther hx hT o u⟩
theorem Pl.set2 {w : World} {v : Value} {z : Int} (h : Pl w v z) {b : Nat} {cs : Array Value} {T' : TypeId} (hx : Box w b cs T') (hT : 3 ≠ T') (o1 o2 : Nat) (u1 u2 : Value) : Pl ((w.setCell ⟨b, o1, none⟩ u1).setCell ⟨b, o2, none⟩ u2) v z :=
  (h.setOther hx hT o1 u1).setOther (hx.set o1 u1) hT o2 u2
theorem Pl.nm {w : World} {b : Bool} {pa : Option Addr} {l ca : Nat} {z : Int} (h : Pl w (.agg #[.bool b, .slice pa l ca]) z) : Nm w (.slice pa l ca) z.natAbs ∧ b = decide (z < 0) := by
  obtain ⟨pa', l', ca', e, h2⟩ := h
  simp only [Value.agg.injEq, Array.mk.injEq, List.cons.injEq, Value.bool.injEq, and_true] at e
  obtain ⟨e1, e2⟩ := e
  rw [e2]
  exact ⟨h2, e1⟩
theorem sgd_turn (z : Int) : sgd z.natAbs (!decide (z < 0)) = -z := sgd_opp z
theorem sgd_self (z : Int) : sgd z.natAbs (decide (z < 0)) = z := by
  unfold sgd
  by_cases h : z < 0 <;> simp [h] <;> omega
theorem sgd_neg' (n : Nat) (b : Bool) : (b && decide (0 < n)) = decide (sgd n b < 0) := by
  rw [← sgd_neg, Bool.eq_iff_iff]
  simp
  omega
theorem Nm.read {w : World} {v : Value} {n : Nat} (h : Nm w v n) : ∃ a cap, v = .slice a (sz 10000 n) cap ∧ sz 10000 n ≤ cap ∧ cap ≤ 9223372036854775807 ∧ ∀ k, k < sz 10000 n → ∃ b off, a = some ⟨b, off, none⟩ ∧ b < w.heap.size ∧ w.cell? ⟨b, off + k, none⟩ = some (.int .i64 ((digs 10000 n).getD k 0 : Nat)) := Gs.read h.gs
theorem Nm.lenp {w : World} {pa : Option Addr} {l c n : Nat} (h : Nm w (.slice pa l c) n) (hn : 0 < n) : 0 < l := by
  obtain ⟨a, cap, e, -⟩ := h.read
  simp only [Value.slice.injEq] at e
  rw [e.2.1]
  unfold sz
  rw [List.length_pos_iff, Ne, digs_eq_nil zo]
  omega
theorem Nm.len0 {w : World} {pa : Option Addr} {l c n : Nat} (h : Nm w (.slice pa l c) n) (hn : n = 0) : l = 0 := by
  obtain ⟨a, cap, e, -⟩ := h.read
  simp only [Value.slice.injEq] at e
  rw [e.2.1, hn, sz_zero]
end Go.Mem
namespace Go.Fra
open Go.Num
def rN (n : Nat) : Rat := ((n : Int) : Rat) / ((1000000000000 : Int) : Rat)
theorem rN_mk (n : Nat) : rN n = mkRat (n : Int) 1000000000000 := by
  unfold rN
  rw [Rat.mkRat_eq_div]
  rfl
theorem rN_parts (n : Nat) : (rN n).num = ((n / n.gcd 1000000000000 : Nat) : Int) ∧ (rN n).den = 1000000000000 / n.gcd 1000000000000 := by
  rw [rN_mk]
  obtain ⟨h1, h2⟩ := mk_parts (n : Int) (d := 1000000000000) zo
  rw [h1, h2, Int.natAbs_natCast]
  refine ⟨?_, rfl⟩
  unfold Mem.sgd
  rw [if_neg zi]
theorem rN_cross (n : Nat) : (rN n).num.natAbs * 10 ^ 12 = n * (rN n).den := by
  obtain ⟨h1, h2⟩ := rN_parts n
  rw [h1, h2, Int.natAbs_natCast]
  have g1 := Nat.gcd_dvd_left n 1000000000000
  have g2 := Nat.gcd_dvd_right n 1000000000000
  obtain ⟨x, hx⟩ := g1
  obtain ⟨y, hy⟩ := g2
  have hg : 0 < n.gcd 1000000000000 := Nat.gcd_pos_of_pos_right _ zo
  have e : (10 : Nat) ^ 12 = 1000000000000 := by decide
  rw [e]
  generalize n.gcd 1000000000000 = g at *
  subst hx
  rw [hy, Nat.mul_div_cancel_left _ hg, Nat.mul_div_cancel_left _ hg]
  rw [Nat.mul_comm g y, ← Nat.mul_assoc, Nat.mul_comm (x * y) g, Nat.mul_assoc]
theorem rN_pow_ok {n k : Nat} (h : n ≤ 10 ^ 18 + 1) (hk : k ≤ 12) : okq (rN n ^ k) = true := by
  obtain ⟨h1, h2⟩ := rN_parts n
  have e1 : (rN n ^ k).num = ((n / n.gcd 1000000000000 : Nat) : Int) ^ k := by rw [Rat.num_pow, h1]
  have e2 : (rN n ^ k).den = (1000000000000 / n.gcd 1000000000000) ^ k := by rw [Rat.den_pow, h2]
  unfold okq okn
  rw [e1, e2, ← Int.natCast_pow, Int.natAbs_natCast]
  have a : n / n.gcd 1000000000000 ≤ 10 ^ 19 := Nat.le_trans (Nat.div_le_self _ _) (Nat.le_trans h (by decide +kernel))
  have b : 1000000000000 / n.gcd 1000000000000 ≤ 10 ^ 19 := Nat.le_trans (Nat.div_le_self _ _) (by decide +kernel)
  have c : ((10 : Nat) ^ 19) ^ 12 < tenTo 600 := by decide +kernel
  have p : ∀ x, x ≤ 10 ^ 19 → x ^ k < tenTo 600 := fun x hx => Nat.lt_of_le_of_lt (Nat.le_trans (Nat.pow_le_pow_left hx k) (Nat.pow_le_pow_right zd hk)) c
  rw [decide_eq_true (p _ a), decide_eq_true (p _ b)]
  rfl
def cmpN (n a m b : Nat) : Int := if n ^ a * 10 ^ (12 * b) < m ^ b * 10 ^ (12 * a) then -1 else if m ^ b * 10 ^ (12 * a) < n ^ a * 10 ^ (12 * b) then 1 else 0
theorem pow_cross (n k : Nat) : (rN n ^ k).num = ((((rN n).num.natAbs ^ k : Nat)) : Int) ∧ (rN n ^ k).den = (rN n).den ^ k ∧ (rN n).num.natAbs ^ k * 10 ^ (12 * k) = n ^ k * (rN n).den ^ k := by
  refine ⟨?_, Rat.den_pow _ _, ?_⟩
  · rw [Rat.num_pow, Int.natCast_pow, Int.natAbs_of_nonneg (by rw [(rN_parts n).1]; exact Int.natCast_nonneg _)]
  · rw [Nat.pow_mul, ← Nat.mul_pow, rN_cross, Nat.mul_pow]
theorem cmpN_eq (n a m b : Nat) : cmpq (rN n ^ a) (rN m ^ b) = cmpN n a m b := by
  obtain ⟨p1, p2, p3⟩ := pow_cross n a
  obtain ⟨q1, q2, q3⟩ := pow_cross m b
  rw [← sgnz_cmp, p1, p2, q1, q2]
  have dp : 0 < (rN n).den ^ a := Nat.pow_pos (rN n).den_pos
  have dq : 0 < (rN m).den ^ b := Nat.pow_pos (rN m).den_pos
  have ea : 0 < 10 ^ (12 * a) := ten_pos _
  have eb : 0 < 10 ^ (12 * b) := ten_pos _
  unfold cmpN
  generalize (rN n).num.natAbs ^ a = x at *
  generalize (rN m).num.natAbs ^ b = y at *
  generalize (rN n).den ^ a = dx at *
  generalize (rN m).den ^ b = dy at *
  generalize n ^ a = nn at *
  generalize m ^ b = mm at *
  generalize 10 ^ (12 * a) = A at *
  generalize 10 ^ (12 * b) = B at *
  have k1 : (x * dy) * (A * B) = (nn * B) * (dx * dy) := by
    calc (x * dy) * (A * B) = (x * A) * (dy * B) := by ac_rfl
      _ = (nn * dx) * (dy * B) := by rw [p3]
      _ = (nn * B) * (dx * dy) := by ac_rfl
  have k2 : (y * dx) * (A * B) = (mm * A) * (dx * dy) := by
    calc (y * dx) * (A * B) = (y * B) * (dx * A) := by ac_rfl
      _ = (mm * dy) * (dx * A) := by rw [q3]
      _ = (mm * A) * (dx * dy) := by ac_rfl
  have pAB : 0 < A * B := Nat.mul_pos ea eb
  have pD : 0 < dx * dy := Nat.mul_pos dp dq
  have l1 : x * dy < y * dx ↔ nn * B < mm * A := by
    rw [← Nat.mul_lt_mul_right pAB, k1, k2, Nat.mul_lt_mul_right pD]
  have l2 : y * dx < x * dy ↔ mm * A < nn * B := by
    rw [← Nat.mul_lt_mul_right pAB, k1, k2, Nat.mul_lt_mul_right pD]
  unfold sgnz
  have c1 : ((x : Int) * (dy : Int) : Int) = ((x * dy : Nat) : Int) := by rw [Int.natCast_mul]
  have c2 : ((y : Int) * (dx : Int) : Int) = ((y * dx : Nat) : Int) := by rw [Int.natCast_mul]
  rw [c1, c2]
  by_cases h1 : x * dy < y * dx
  · rw [if_pos (l1.1 h1), if_neg zo, if_pos zo]
  · rw [if_neg (fun h => h1 (l1.2 h))]
    by_cases h2 : y * dx < x * dy
    · rw [if_pos (l2.1 h2), if_neg zo, if_neg zo]
    · rw [if_neg (fun h => h2 (l2.2 h)), if_pos zo]
end Go.Fra
namespace Go.Num
end Go.Num
