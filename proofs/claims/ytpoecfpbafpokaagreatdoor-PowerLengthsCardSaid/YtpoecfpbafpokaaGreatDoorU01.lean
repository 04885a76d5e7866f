/- verdigrislaw04.PowerLengths returns true. Conditions: those of the given row. -/
import Derived.Test.YtpoecfpbafpokaaGreatDoorSB01
import Derived.Test.YtpoecfpbafpokaaGreatDoorSB02
import Derived.Test.YtpoecfpbafpokaaGreatDoorSB03
import Derived.Test.YtpoecfpbafpokaaGreatDoorSB04
import Derived.Test.YtpoecfpbafpokaaGreatDoorSB05
import Derived.Test.YtpoecfpbafpokaaGreatDoorSB06
import Derived.Test.YtpoecfpbafpokaaGreatDoorSB07
import Derived.Test.YtpoecfpbafpokaaGreatDoorSB08
import Derived.Test.YtpoecfpbafpokaaGreatDoorSB09
import Derived.Test.YtpoecfpbafpokaaGreatDoorSB10
import Derived.Test.YtpoecfpbafpokaaGreatDoorSB11
import Derived.Test.YtpoecfpbafpokaaGreatDoorCards
import Derived.Test.YtpoecfpbafpokaaGreatDoorTie
import Derived.Maps.AppendAt
import Derived.Deep.AppendSrc
import Derived.Deep.DeepAppendWide
import Derived.Laws.IdiomCopy
import Derived.ChangeArms
import Derived.ChangeSame
import Derived.ChangeVars
import Derived.JoinedOf
import Derived.SevenTiedAt
import Derived.ChangeMaps5
import Derived.Carry
set_option linter.unusedVariables false
set_option linter.unusedSimpArgs false
namespace Go.Proofs.verdigrislaw04
open Go Go.RowKit Go.SW Go.Num Go.Mem Go.Proofs Go.Proofs.band
theorem tmod_bounds {z : Int} {m : Nat} (hm : 0 < m) : -(m : Int) < Int.tmod z m ∧ Int.tmod z m < m := by
 have h1 := Int.natAbs_tmod z m
 have h2 := Nat.mod_lt z.natAbs hm
 simp only [Int.natAbs_natCast] at h1
 omega
set_option maxRecDepth 10000 in
set_option maxHeartbeats 1000000 in
theorem Small_ok (at' wide : Int) (w0 : 0 ≤ wide) (w1 : wide ≤ 4294967295) (w : World) :
  Calls Tryz.prog 13 #[.agg #[.int .i64 at', .int .u32 wide]] w (fun e w' => (∃ lo hi : Int, e = .returned (.agg #[.int .i64 lo, .int .i64 hi]) ∧ -19000000000000 < lo ∧ lo ≤ hi ∧ hi ≤ 19000001000000) ∧ Below w.heap.size w w') := by
 obtain ⟨b1, b2⟩ := tmod_bounds (z := at') (m := 19000000000000) (by omega)
 generalize hm : Int.tmod at' 19000000000000 = m at *
 go_enter Tryz.func13, Tryz.ntmps13
 go_wp2_with fail
 all_goals
  refine ret_c rfl rfl boxA Tryz.underlying23 rfl (by kernel_rfl) ?_
  exact ⟨⟨_, _, rfl, by omega, by omega, by omega⟩, belA⟩
end Go.Proofs.verdigrislaw04
namespace Go.Proofs.band
open Go Go.RowKit Go.SW Go.Num Go.Mem Go.Proofs Go.Fra
def addE (a b : Int × Int) : (Int × Int) × Int := if okB [a, b] then madeE (a.1 + b.1) (a.2 + b.2) else ((0, 0), 30)
set_option maxRecDepth 10000 in
set_option maxHeartbeats 1000000 in
theorem Add1_ok (x y z t : Int) (h0 : okB [(x, y), (z, t)] = true) (b c : Nat) (w : World) (h : Box w b #[.int .i64 x, .int .i64 y] 23) (k : Box w c #[.int .i64 z, .int .i64 t] 23) :
  Calls Tryz.prog 89 #[.pointer (some ⟨b, 0, none⟩), .pointer (some ⟨c, 0, none⟩)] w (fun e w' => e = .returned (bndV (madeE (x + z) (y + t))) ∧ Below w.heap.size w w') := by
 have h0' : bok x y = true ∧ bok z t = true := by simpa [okB] using h0
 obtain ⟨hk1, hk2, hk3⟩ : -1000000000000000000 ≤ x ∧ x ≤ y ∧ y ≤ 1000000000000000000 := by simpa [bok] using h0'.1
 obtain ⟨hk4, hk5, hk6⟩ : -1000000000000000000 ≤ z ∧ z ≤ t ∧ t ≤ 1000000000000000000 := by simpa [bok] using h0'.2
 have H := Lib.hid (fun W => made_ok (x + z) (y + t) W)
 generalize madeE (x + z) (y + t) = m at *
 obtain ⟨⟨m1, m2⟩, m3⟩ := m
 unfold bndV at *
 simp only at *
 have cb := h.cell
 have lb := h.lt
 have cc := k.cell
 have lc := k.lt
 clear h k h0 h0'
 go_enter Tryz.func89, Tryz.ntmps89
 go_wp2_with fail
 refine (H.out _).mono ?_
 rintro e w1 ⟨rfl, hb1⟩
 have hx := Box.later (Box.new w #[.int .i64 0, .int .i64 0] 23) hb1
 have cx := hx.cell
 have fx := hx.free
 have lx := hx.lt
 have hw := Bt (show Below w.heap.size w (w.alloc (.cells #[.int .i64 0, .int .i64 0] 23)) from belA) hb1
 go_wp2_with fail
 refine ret_ct rfl rfl boxA Tryz.underlying23 rfl (by kernel_rfl) ?_
 exact ⟨rfl, belA⟩
set_option maxRecDepth 10000 in
set_option maxHeartbeats 1000000 in
theorem Add_ok (x y z t : Int) (w : World) : Calls Tryz.prog 39 #[.agg #[.int .i64 x, .int .i64 y], .agg #[.int .i64 z, .int .i64 t]] w (fun e w' => e = .returned (bndV (addE (x, y) (z, t))) ∧ Below w.heap.size w w') := by
 have H : Hid (∀ W b c d, Box W b #[.int .i64 x, .int .i64 y] 23 → Box W c #[.int .i64 z, .int .i64 t] 23 → Box W d #[.int .i64 x, .int .i64 y, .int .i64 z, .int .i64 t] 23 → Calls Tryz.prog 84 #[.func (.func 89) #[] #[.pointer (some ⟨b, 0, none⟩), .pointer (some ⟨c, 0, none⟩)], .slice (some ⟨d, 0, none⟩) 2 2] W (fun e w' => e = .returned (bndV (addE (x, y) (z, t))) ∧ Below W.heap.size W w')) := Lib.hid fun W b c d h1 h2 h3 =>
  checked_ok 89 #[.pointer (some ⟨b, 0, none⟩), .pointer (some ⟨c, 0, none⟩)] _ _ _ _ W (Bds.two h3) (fun h W' hW' => Add1_ok x y z t h b c W' (h1.later hW') (h2.later hW')) (fun args W => by rfl)
 generalize addE (x, y) (z, t) = m at *
 obtain ⟨⟨m1, m2⟩, m3⟩ := m
 unfold bndV at *
 simp only at *
 go_enter Tryz.func39, Tryz.ntmps39
 go_wp2_with fail
 obtain ⟨wx, EW, hz, X, Y, R, Z⟩ := al4 w #[.int .i64 x, .int .i64 y] 23 #[.int .i64 z, .int .i64 t] 23 #[.int .i64 0, .int .i64 0] 23 #[.int .i64 x, .int .i64 y, .int .i64 z, .int .i64 t] 23
 rw [EW]
 clear EW
 have HB := Lib.hid hz
 clear hz
 refine (H.out _ _ _ _ X.out Y.out Z.out).mono ?_
 rintro e w1 ⟨rfl, hb1⟩
 replace R := R.bl hb1
 replace HB := Lib.hid (Bt HB.out hb1)
 clear hb1 H
 have hx := R.out
 have cx := hx.cell
 have fx := hx.free
 have lx := hx.lt
 have hw := HB.out
 go_wp2_with fail
 refine ret_ct rfl rfl boxA Tryz.underlying23 rfl (by kernel_rfl) ?_
 exact ⟨rfl, belA⟩
end Go.Proofs.band
namespace Go.Proofs.power
open Go Go.RowKit Go.SW Go.Num Go.Mem Go.Proofs Go.Fra Go.Proofs.band
/-- A band of a small draft. -/
def Sm (b : Int × Int) : Prop := -19000000000000 < b.1 ∧ b.1 ≤ b.2 ∧ b.2 ≤ 19000001000000
def ng (b : Int × Int) : Int × Int := (-b.2, -b.1)
theorem Sm.bok {b : Int × Int} (h : Sm b) : bok b.1 b.2 = true := by
 unfold Sm at h
 unfold band.bok
 simp only [Bool.and_eq_true, decide_eq_true_eq]
 omega
theorem blo_ng (b : Int × Int) : blo (ng b) = blo b := by
 unfold blo ng
 simp only
 omega
theorem bhi_ng (b : Int × Int) : bhi (ng b) = bhi b := by
 unfold bhi ng
 simp only
 omega
theorem ng_ok {b : Int × Int} (h : Sm b) : bok (ng b).1 (ng b).2 = true := by
 unfold Sm at h
 unfold band.bok ng
 simp only [Bool.and_eq_true, decide_eq_true_eq]
 omega
theorem Sm.neg {b : Int × Int} (h : Sm b) : negE b.1 b.2 = (ng b, 0) := by
 unfold negE madeE
 have := ng_ok h
 unfold ng at *
 rw [if_pos h.bok, if_pos this]
theorem Sm.abs {b : Int × Int} (h : Sm b) : absE b.1 b.2 = (((blo b : Int), (bhi b : Int)), 0) := by
 have e1 : max (max b.1 (-b.2)) 0 = (blo b : Int) := by unfold blo; omega
 have e2 : max (-b.1) b.2 = (bhi b : Int) := by unfold Sm at h; unfold bhi; omega
 have e3 : band.bok (blo b : Int) (bhi b : Int) = true := by
  rw [← e1, ← e2]
  unfold Sm at h
  unfold band.bok
  simp only [Bool.and_eq_true, decide_eq_true_eq]
  omega
 unfold absE madeE
 rw [if_pos h.bok, e1, e2, if_pos e3]
theorem Sm.le {b : Int × Int} (h : Sm b) : blo b ≤ bhi b ∧ bhi b ≤ 20000000000000 := by
 unfold Sm at h
 unfold blo bhi
 omega
theorem okB_of {l : List (Int × Int)} (h : ∀ b ∈ l, bok b.1 b.2 = true) : okB l = true := by
 unfold okB
 exact List.all_eq_true.2 h
theorem sum_le {l : List Nat} {m : Nat} (h : ∀ x ∈ l, x ≤ m) : l.sum ≤ l.length * m := by
 induction l with
 | nil => simp
 | cons x t ih =>
  have a := h x (by simp)
  have b := ih (fun y hy => h y (by simp [hy]))
  rw [List.sum_cons, List.length_cons, Nat.succ_mul]
  omega
theorem sum_mono {l : List (Int × Int)} (h : ∀ b ∈ l, Sm b) : (l.map blo).sum ≤ (l.map bhi).sum := by
 induction l with
 | nil => simp
 | cons x t ih =>
  have a := (h x (by simp)).le.1
  have b := ih (fun y hy => h y (by simp [hy]))
  rw [List.map_cons, List.map_cons, List.sum_cons, List.sum_cons]
  omega
theorem sum_hi {l : List (Int × Int)} (h : ∀ b ∈ l, Sm b) (h8 : l.length ≤ 8) : (l.map bhi).sum ≤ 160000000000000 := by
 have := sum_le (l := l.map bhi) (m := 20000000000000) (fun x hx => by
  obtain ⟨b, hb, rfl⟩ := List.mem_map.1 hx
  exact (h b hb).le.2)
 rw [List.length_map] at this
 have := Nat.mul_le_mul_right 20000000000000 h8
 omega
theorem bok_nn {a b : Nat} (h : a ≤ b) (h2 : b ≤ 160000000000000) : bok (a : Int) (b : Int) = true := by
 unfold band.bok
 simp only [Bool.and_eq_true, decide_eq_true_eq]
 omega
/-- A norm whose bands have the sums of parts as bounds. -/
theorem nrm_of {l : List (Int × Int)} {lo hi : List Nat} (h1 : 1 ≤ l.length) (h8 : l.length ≤ 8) (hok : okB l = true) (e1 : sqs (l.map blo) = sqs lo) (e2 : sqs (l.map bhi) = sqs hi) (hm : nlo lo ≤ nhi hi) (hs : hi.sum ≤ 160000000000000) :
  nrmE l = (((nlo lo : Int), (nhi hi : Int)), 0) := by
 have f1 : nlo (l.map blo) = nlo lo := by unfold nlo; rw [e1]
 have f2 : nlo (l.map bhi) = nlo hi := by unfold nlo; rw [e2]
 have f3 : nhi (l.map bhi) = nhi hi := by unfold nhi; rw [f2, e2]
 have b1 := nhi_sum hi
 have b2 := nlo_le_nhi hi
 have g1 : nrmV (l.map blo) false = ((nlo lo : Int), 0) := by
  unfold nrmV
  rw [f1, if_pos (by omega)]
  rfl
 have g2 : nrmV (l.map bhi) true = ((nhi hi : Int), 0) := by
  unfold nrmV
  rw [f2, f3, if_pos (by omega)]
  rfl
 rw [nrmE_at h1 h8 hok, g1, g2]
 unfold outE
 rw [if_neg (fun h => h rfl), if_neg (fun h => h rfl), if_pos (bok_nn hm (by omega))]
theorem nlo_nhi {l : List (Int × Int)} (h : ∀ b ∈ l, Sm b) : nlo (l.map blo) ≤ nhi (l.map bhi) := by
 have : sqs (l.map blo) ≤ sqs (l.map bhi) := sqs_mono (by simp) fun i h1 h2 => by
  rw [List.getElem_map, List.getElem_map]
  exact (h _ (List.getElem_mem _)).le.1
 exact nlo_le (Nat.le_trans this (nhi_spec _))
theorem nrm_small {l : List (Int × Int)} (h : ∀ b ∈ l, Sm b) (h1 : 1 ≤ l.length) (h8 : l.length ≤ 8) : nrmE l = (((nlo (l.map blo) : Int), (nhi (l.map bhi) : Int)), 0) :=
 nrm_of h1 h8 (okB_of fun b hb => (h b hb).bok) rfl rfl (nlo_nhi h) (sum_hi h h8)
theorem nrm_turn {l : List (Int × Int)} (h : ∀ b ∈ l, Sm b) (h1 : 1 ≤ l.length) (h8 : l.length ≤ 8) (k : Nat) : nrmE ((l.map ng).drop k ++ (l.map ng).take k) = (((nlo (l.map blo) : Int), (nhi (l.map bhi) : Int)), 0) := by
 have e : ∀ f : Int × Int → Nat, (∀ b, f (ng b) = f b) → sqs (((l.map ng).drop k ++ (l.map ng).take k).map f) = sqs (l.map f) := fun f hf => by
  have : (l.map ng).map f = l.map f := by rw [List.map_map]; exact List.map_congr_left fun b _ => hf b
  rw [List.map_append, List.map_drop, List.map_take, this, sqs_turn]
 have hlen : ((l.map ng).drop k ++ (l.map ng).take k).length = l.length := by
  rw [List.length_append, List.length_drop, List.length_take, List.length_map]
  omega
 refine nrm_of (by omega) (by omega) (okB_of fun b hb => ?_) (e blo blo_ng) (e bhi bhi_ng) (nlo_nhi h) (sum_hi h h8)
 have hb' : b ∈ l.map ng := by
  rcases List.mem_append.1 hb with hb | hb
  ·exact List.mem_of_mem_drop hb
  ·exact List.mem_of_mem_take hb
 obtain ⟨c, hc, rfl⟩ := List.mem_map.1 hb'
 exact ng_ok (h c hc)
theorem nrm_one {b : Int × Int} (h : Sm b) : nrmE [b] = (((blo b : Int), (bhi b : Int)), 0) := by
 have := nrm_small (l := [b]) (fun c hc => by rw [List.mem_singleton.1 hc]; exact h) (by simp) (by simp)
 rw [this, List.map_cons, List.map_cons, List.map_nil, List.map_nil, nlo_one, nhi_one]
/-- The sum so far. -/
def sm (l : List (Int × Int)) : Int × Int := ((((l.map blo).sum : Nat) : Int), (((l.map bhi).sum : Nat) : Int))
theorem sm_snoc {l : List (Int × Int)} {b : Int × Int} (h : ∀ c ∈ l ++ [b], Sm c) (h8 : (l ++ [b]).length ≤ 8) : addE (sm l) ((blo b : Int), (bhi b : Int)) = (sm (l ++ [b]), 0) := by
 have h2 := sum_hi h h8
 have h3 := sum_mono h
 have h4 : ∀ c ∈ l, Sm c := fun c hc => h c (by simp [hc])
 have h5 := sum_hi h4 (by rw [List.length_append] at h8; omega)
 have h6 := sum_mono h4
 have hb := (h b (by simp)).le
 have e : sm (l ++ [b]) = ((((l.map blo).sum : Nat) : Int) + (blo b : Int), (((l.map bhi).sum : Nat) : Int) + (bhi b : Int)) := by
  unfold sm
  simp
 have k1 : okB [sm l, ((blo b : Int), (bhi b : Int))] = true := okB_of fun c hc => by
  rcases List.mem_cons.1 hc with rfl | hc
  ·exact bok_nn h6 h5
  ·rw [List.mem_singleton.1 hc]
   exact bok_nn hb.1 (by omega)
 have k2 : bok (sm (l ++ [b])).1 (sm (l ++ [b])).2 = true := bok_nn h3 h2
 rw [e] at k2 ⊢
 unfold addE madeE
 rw [if_pos k1]
 unfold sm
 simp only at k2 ⊢
 rw [if_pos k2]
end Go.Proofs.power
namespace Go.Fra
open Go Go.RowKit Go.SW Go.Num Go.Mem Go.Proofs
/-- The cells of bands. -/
def bcs (l : List (Int × Int)) : List Value := l.flatMap fun b => [.int .i64 b.1, .int .i64 b.2]
theorem bcs_length (l : List (Int × Int)) : (bcs l).length = l.length * 2 := by
 induction l with
 | nil => rfl
 | cons b t ih =>
  have : bcs (b :: t) = [.int .i64 b.1, .int .i64 b.2] ++ bcs t := rfl
  rw [this, List.length_append, ih, List.length_cons, List.length_cons, List.length_cons, List.length_nil]
  omega
theorem bcs_append (l m : List (Int × Int)) : bcs (l ++ m) = bcs l ++ bcs m := by unfold bcs; rw [List.flatMap_append]
theorem bcs_at {l : List (Int × Int)} : ∀ {i : Nat} (h : i < l.length), (bcs l)[i * 2]? = some (.int .i64 l[i].1) ∧ (bcs l)[i * 2 + 1]? = some (.int .i64 l[i].2) := by
 induction l with
 | nil => intro i h; cases h
 | cons b t ih =>
  intro i h
  have e : bcs (b :: t) = .int .i64 b.1 :: .int .i64 b.2 :: bcs t := rfl
  rw [e]
  cases i with
  | zero => exact ⟨rfl, rfl⟩
  | succ i =>
   have := ih (i := i) (by simpa using h)
   have e1 : (i + 1) * 2 = i * 2 + 1 + 1 := by omega
   have e2 : (i + 1) * 2 + 1 = i * 2 + 1 + 1 + 1 := by omega
   rw [e1, List.getElem?_cons_succ, List.getElem?_cons_succ, List.getElem?_cons_succ, List.getElem?_cons_succ]
   exact this
theorem bcs_one (l : List (Int × Int)) : ∀ u ∈ bcs l, u.oneCell' = true := fun u hu => by
 unfold bcs at hu
 obtain ⟨b, -, hb⟩ := List.mem_flatMap.1 hu
 rcases List.mem_cons.1 hb with rfl | hb
 ·rfl
 ·rw [List.mem_singleton.1 hb]
  rfl
/-- A slice of the call's own that holds the bands l. -/
def Own (w : World) (B : Nat) (T : TypeId) (v : Value) (l : List (Int × Int)) : Prop := w.ownsRow B T 2 v l.length (bcs l)
theorem Own.nil (w : World) (B : Nat) (T : TypeId) : Own w B T (.slice none 0 0) [] := World.ownsRow_nil w B T 2
theorem Own.cases {w : World} {B : Nat} {T : TypeId} {v : Value} {l : List (Int × Int)} (h : Own w B T v l) :
  (v = .slice none 0 0 ∧ l = []) ∨ ∃ g cap cur, v = .slice (some ⟨g, 0, none⟩) l.length cap ∧ B ≤ g ∧ Box w g cur T ∧ l.length ≤ cap ∧ cap ≤ maxLen ∧ cur.size = cap * 2 ∧ cur.toList.take (l.length * 2) = bcs l := by
 rcases h.2 with ⟨h1, h2⟩ | ⟨g, cap, cur, h1, h2, h3, h4⟩
 ·exact .inl ⟨h1, List.length_eq_zero_iff.1 h2⟩
 ·exact .inr ⟨g, cap, cur, h1, h2, h3, h4⟩
theorem Own.mk {w : World} {B g cap : Nat} {T : TypeId} {l : List (Int × Int)} {cur : Array Value} (h1 : B ≤ g) (h2 : Box w g cur T) (h3 : l.length ≤ cap) (h4 : cap ≤ maxLen) (h5 : cur.size = cap * 2) (h6 : cur.toList.take (l.length * 2) = bcs l) : Own w B T (.slice (some ⟨g, 0, none⟩) l.length cap) l :=
 ⟨bcs_length l, .inr ⟨g, cap, cur, rfl, h1, h2, h3, h4, h5, h6⟩⟩
theorem Own.slice {w : World} {B : Nat} {T : TypeId} {v : Value} {l : List (Int × Int)} (h : Own w B T v l) : ∃ a c, v = .slice a l.length c := by
 rcases h.cases with ⟨rfl, rfl⟩ | ⟨g, cap, cur, rfl, -⟩
 ·exact ⟨_, _, rfl⟩
 ·exact ⟨_, _, rfl⟩
theorem Own.bds {w : World} {B : Nat} {T : TypeId} {v : Value} {l : List (Int × Int)} (h : Own w B T v l) : Bds w T v l := by
 rcases h.cases with ⟨rfl, rfl⟩ | ⟨g, cap, cur, rfl, h1, h2, h3, h4, h5, h6⟩
 ·exact ⟨none, 0, rfl, Nat.le_refl _, by omega, fun _ h => by cases h⟩
 ·unfold maxLen at h4
  refine Bds.of_box h2 rfl h3 h4 fun i hi => ?_
  have k := bcs_at hi
  rw [← h6, List.getElem?_take_of_lt (by omega), List.getElem?_take_of_lt (by omega), Array.getElem?_toList, Array.getElem?_toList] at k
  exact k
theorem Own.later {w w' : World} {B : Nat} {T : TypeId} {v : Value} {l : List (Int × Int)} (h : Own w B T v l) (hb : Below w.heap.size w w') : Own w' B T v l := by
 rcases h.cases with ⟨rfl, rfl⟩ | ⟨g, cap, cur, rfl, h1, h2, h3, h4, h5, h6⟩
 ·exact Own.nil _ _ _
 ·exact Own.mk h1 (h2.later hb) h3 h4 h5 h6
/-- Another row has grown. -/
theorem Own.kept {w w' : World} {B : Nat} {T : TypeId} {v : Value} {l : List (Int × Int)} {row : Option Nat} (h : Own w B T v l) (hg : w.grownBy w' row) (hne : ∀ r, v.ownBlock = some r → row ≠ some r) : Own w' B T v l := by
 rcases h.cases with ⟨rfl, rfl⟩ | ⟨g, cap, cur, rfl, h1, h2, h3, h4, h5, h6⟩
 ·exact Own.nil _ _ _
 ·refine Own.mk h1 ?_ h3 h4 h5 h6
  have := hg.block g h2.lt (fun e => hne g rfl e.symm)
  unfold Box at *
  rw [this]
  exact h2
theorem Own.lt {w : World} {B : Nat} {T : TypeId} {v : Value} {l : List (Int × Int)} (h : Own w B T v l) : ∀ r, v.ownBlock = some r → B ≤ r ∧ r < w.heap.size := fun r hr => by
 rcases h.cases with ⟨rfl, rfl⟩ | ⟨g, cap, cur, rfl, h1, h2, -⟩
 ·cases hr
 ·cases hr
  exact ⟨h1, h2.lt⟩
theorem Box.grown {w w' : World} {b : Nat} {cs : Array Value} {T : TypeId} {row : Option Nat} (h : Box w b cs T) (hg : w.grownBy w' row) (hne : row ≠ some b) : Box w' b cs T := by
 have := hg.block b h.lt (fun e => hne e.symm)
 unfold Box at *
 rw [this]
 exact h
/-- The cells of a slice of bands. -/
theorem Bds.src {w : World} {T : TypeId} {ad : Addr} {n c : Nat} {l : List (Int × Int)} (h : Bds w T (.slice (some ad) n c) l) : n = l.length ∧ ∀ j u, (bcs l)[j]? = some u → w.cell? (ad.add j) = some u := by
 obtain ⟨a, cap, h1, h2, h3, h4⟩ := h
 cases h1
 refine ⟨rfl, fun j u hu => ?_⟩
 have hj : j < l.length * 2 := by
  have := (List.getElem?_eq_some_iff.1 hu).1
  rwa [bcs_length] at this
 have hi : j / 2 < l.length := by omega
 have k := bcs_at hi
 obtain ⟨b, off, e, -, m⟩ := h4 _ hi
 cases e
 rw [Addr.add_lit]
 rcases Nat.mod_two_eq_zero_or_one j with e | e
 ·have e2 : j / 2 * 2 = j := by omega
  rw [e2] at k m
  rw [← hu, k.1]
  exact m.1
 ·have e2 : j / 2 * 2 + 1 = j := by omega
  have e3 : off + j / 2 * 2 + 1 = off + j := by omega
  rw [e2] at k
  rw [e3] at m
  rw [← hu, k.2]
  exact m.2
theorem app_own (ty : TypeId) {w : World} {B : Nat} {v : Value} {l : List (Int × Int)} (hO : Own w B 23 v l) {ad : Addr} {n c : Nat} {m : List (Int × Int)} {T : TypeId} (hS : Bds w T (.slice (some ad) n c) m) (hl : l.length + m.length ≤ 1000) (hB : B ≤ w.heap.size) :
  ∃ v' w', (Builtin.append_ #[55, 55] ty #[v, .slice (some ad) n c]).run Tryz.prog w = .ok v' w' ∧ Own w' B 23 v' (l ++ m) ∧ w.grownBy w' v.ownBlock ∧ (v'.ownBlock = v.ownBlock ∨ v'.ownBlock = some w.heap.size) := by
 obtain ⟨i0, hi, hz0, hz1, hz2⟩ := info_parts infoB
 obtain ⟨rfl, hc⟩ := hS.src
 obtain ⟨v', w', h1, h2, h3, -, h4⟩ := run_append_own_at (P := Tryz.prog) w B 55 ty 23 i0 (.agg #[.int .i64 0, .int .i64 0]) 2 16 Tryz.underlying55 hi hz0 hz1 hz2 rfl (by decide) v l.length (bcs l) hO ad m.length c (bcs m) (bcs_length m) hc (bcs_one m) (by unfold maxLen; omega) (by omega) hB
 refine ⟨v', w', h1, ?_, h3, h4⟩
 unfold Own
 rw [List.length_append, bcs_append]
 exact h2
/-- append as one operation of a region. -/
theorem wp_append {o : Oper} {a : Act} {w : World} {K : Act → World → Prop} {Q : Exit → Act → World → Prop} (s x : Operand) (ho : o.op = .call { callee := .builtin .append, args := #[s, x], argTypes := #[55, 55] })
  {B : Nat} {v : Value} {l : List (Int × Int)} (hs : a.eval s = v) (hO : Own w B 23 v l) {ad : Addr} {n c : Nat} {m : List (Int × Int)} {T : TypeId} (hx : a.eval x = .slice (some ad) n c) (hS : Bds w T (.slice (some ad) n c) m) (hl : l.length + m.length ≤ 1000) (hB : B ≤ w.heap.size)
  (h : ∀ v' w', Own w' B 23 v' (l ++ m) → w.grownBy w' v.ownBlock → (v'.ownBlock = v.ownBlock ∨ v'.ownBlock = some w.heap.size) → K (a.put o.dst v') w') : o.wp Tryz.prog a w K Q := by
 obtain ⟨v', w', hr, h1, h2, h3⟩ := app_own o.type hO hS hl hB
 unfold Oper.wp execOp
 simp only [ho, resolve, invoke, builtin, Sem.run_bind, Sem.run_pure, Result.andThen_ok, List.map_toArray, List.map_cons, List.map_nil, hs, hx, hr]
 exact h _ _ h1 h2 h3
theorem wpList_append {ops : Array Oper} {rest : List Oper} {o : Oper} {a : Act} {w : World} {Q : Exit → Act → World → Prop} (hgd : o.guard = none) (s x : Operand) (ho : o.op = .call { callee := .builtin .append, args := #[s, x], argTypes := #[55, 55] })
  {B : Nat} {v : Value} {l : List (Int × Int)} (hs : a.eval s = v) (hO : Own w B 23 v l) {ad : Addr} {n c : Nat} {m : List (Int × Int)} {T : TypeId} (hx : a.eval x = .slice (some ad) n c) (hS : Bds w T (.slice (some ad) n c) m) (hl : l.length + m.length ≤ 1000) (hB : B ≤ w.heap.size)
  (h : ∀ v' w', Own w' B 23 v' (l ++ m) → w.grownBy w' v.ownBlock → (v'.ownBlock = v.ownBlock ∨ v'.ownBlock = some w.heap.size) → wpList Tryz.prog ops Q rest (a.put o.dst v') w') : wpList Tryz.prog ops Q (o :: rest) a w :=
 wpList_plain hgd fun _ hK => wp_append s x ho hs hO hx hS hl hB fun v' w' h1 h2 h3 => hK _ _ (h v' w' h1 h2 h3)
/-- An append of zeros to nil. -/
theorem run_append_zeros (w : World) (ty : TypeId) (n : Nat) (hn : 0 < n) (h8 : n ≤ 1000) :
  ∃ cap arr, n ≤ cap ∧ cap ≤ maxLen ∧ arr.size = cap * 2 ∧ (Builtin.append_ #[55, 3] ty #[.slice none 0 0, .int .i64 n]).run Tryz.prog w = .ok (.slice (some ⟨w.heap.size, 0, none⟩) n cap) (w.drew.alloc (.cells arr 23)) := by
 obtain ⟨i0, hi, hz0, hz1, hz2⟩ := info_parts infoB
 refine ⟨grownCap w n 0 23, (Builtin.zeroCells (Value.agg #[.int .i64 0, .int .i64 0]).cells n) ++ Builtin.zeroCells (Value.agg #[.int .i64 0, .int .i64 0]).cells (grownCap w n 0 23 - n), grownCap_ge w n 0 _, grownCap_le_maxLen w n 0 _ (by unfold maxLen; omega), ?_, ?_⟩
 ·have := grownCap_ge w n 0 23
  rw [Array.size_append, size_zeroCells, size_zeroCells, show (Value.agg #[.int .i64 0, .int .i64 0]).cells.size = 2 from rfl]
  omega
 ·have h1 : ¬ ((n : Int) < 0) := by omega
  have h2 : IntKind.i64.wrap (n : Int) = (n : Int) := by rw [IntKind.wrap_i64]; omega
  have hf := run_firstCells_none (P := Tryz.prog) w.drew 2 0 0 0
  have h6 : ¬ (9223372036854775807 < max (n : Int) 0) := by omega
  have h7 : ¬ (n ≤ 0) := by omega
  have h9 : ¬ ((9223372036854775807 : Int) < (n : Int)) := by omega
  have h3 : ¬ (281474976710656 < (n : Int) * 16) := by omega
  have h4 : ¬ (n = 0) := by omega
  have h5 : ¬ (281474976710656 < Builtin.nextslicecap n 0 * 16) := by
   have := growslice_fits_wide (need := n) (old := 0) (bytes := 16) (by omega) (by omega)
   omega
  have hu : Tryz.prog.underlying 3 = some (.int .i64) := Tryz.underlying3
  simp [Builtin.append_, run_underlying Tryz.underlying55, run_underlying hu, sizeOf, typeInfo, zeroValue, hi, hz0, hz1, hz2, h1, h2, h3, h4, h5, Question.forced, newRow, grownCap, asInt, asIntOf, hf, h6, h7, h9]
  intro h
  omega
theorem wpList_zeros {ops : Array Oper} {rest : List Oper} {o : Oper} {a : Act} {w : World} {Q : Exit → Act → World → Prop} (hgd : o.guard = none) (s x : Operand) (ho : o.op = .call { callee := .builtin .append, args := #[s, x], argTypes := #[55, 3] })
  (n : Nat) (hn : 0 < n) (h8 : n ≤ 1000) (hs : a.eval s = .slice none 0 0) (hx : a.eval x = .int .i64 n)
  (h : ∀ cap arr, n ≤ cap → cap ≤ maxLen → arr.size = cap * 2 → wpList Tryz.prog ops Q rest (a.put o.dst (.slice (some ⟨w.heap.size, 0, none⟩) n cap)) (w.drew.alloc (.cells arr 23))) : wpList Tryz.prog ops Q (o :: rest) a w :=
 wpList_plain hgd fun _ hK => by
  obtain ⟨cap, arr, h1, h2, h3, hr⟩ := run_append_zeros w o.type n hn h8
  unfold Oper.wp execOp
  simp only [ho, resolve, invoke, builtin, Sem.run_bind, Sem.run_pure, Result.andThen_ok, List.map_toArray, List.map_cons, List.map_nil, hs, hx, hr]
  exact hK _ _ (h cap arr h1 h2 h3)
end Go.Fra
namespace Go.Fra
open Go Go.RowKit Go.Num Go.Mem
/-- A slice of slices of bands. -/
def Bdss (w : World) (v : Value) (ms : List (List (Int × Int))) : Prop :=
 ∃ b off c, v = .slice (some ⟨b, off, none⟩) ms.length c ∧ ∀ k (_ : k < ms.length), ∃ ad c', b < w.heap.size ∧ w.cell? ⟨b, off + k, none⟩ = some (.slice (some ad) ms[k].length c') ∧ Bds w 23 (.slice (some ad) ms[k].length c') ms[k]
/-- The bands of the first k. -/
def tot (ms : List (List (Int × Int))) (k : Nat) : Nat := ((ms.take k).flatten).length
theorem tot_succ {ms : List (List (Int × Int))} {k : Nat} (h : k < ms.length) : tot ms (k + 1) = tot ms k + ms[k].length := by
 unfold tot
 rw [List.take_succ_eq_append_getElem h, List.flatten_append, List.length_append]
 simp
theorem tot_le (ms : List (List (Int × Int))) (k : Nat) : tot ms k ≤ ms.flatten.length := by
 unfold tot
 conv => rhs; rw [← List.take_append_drop k ms, List.flatten_append, List.length_append]
 omega
theorem flat_succ {ms : List (List (Int × Int))} {k : Nat} (h : k < ms.length) : (ms.take (k + 1)).flatten = (ms.take k).flatten ++ ms[k] := by
 rw [List.take_succ_eq_append_getElem h, List.flatten_append]
 simp
theorem Own.sub {w : World} {B B' : Nat} {T : TypeId} {v : Value} {l : List (Int × Int)} (h : Own w B T v l) (hB : B' ≤ B) : Own w B' T v l := by
 rcases h.cases with ⟨rfl, rfl⟩ | ⟨g, cap, cur, rfl, h1, h2, h3, h4, h5, h6⟩
 ·exact Own.nil _ _ _
 ·exact Own.mk (Nat.le_trans hB h1) h2 h3 h4 h5 h6
end Go.Fra
namespace Go.Proofs.slices
open Go Go.RowKit Go.SW Go.Num Go.Mem Go.Proofs Go.Fra
set_option maxRecDepth 10000 in
theorem Grow_ok (n : Nat) (h0 : 0 < n) (h1 : n ≤ 1000) (w : World) :
  Calls Tryz.prog 90 #[.slice none 0 0, .int .i64 n] w (fun e w' => ∃ v, e = .returned v ∧ Go.Fra.Own w' w.heap.size 23 v [] ∧ Below w.heap.size w w') := by
 have n1 : ¬ ((n : Int) < 0) := by omega
 have n2 : (0 : Int) < (n : Int) := by omega
 have hw : IntKind.i64.wrap (n : Int) = (n : Int) := by rw [IntKind.wrap_i64]; omega
 go_enter Tryz.func90, Tryz.ntmps90
 go_wp2_with (at_builtin; refine wpList_zeros rfl _ _ rfl n h0 h1 rfl rfl ?_)
 intro cap arr k1 k2 k3
 have k4 : (0 : Int) ≤ (cap : Int) := by omega
 go_wp2_with fail
 go_ret
 have ho := Own.mk (l := []) (Nat.le_refl _) (Box.drew (Box.new w arr 23)) (Nat.zero_le _) k2 k3 rfl
 exact ⟨_, rfl, ho, belA⟩
set_option maxRecDepth 10000 in
set_option maxHeartbeats 1000000 in
theorem Concat_ok (v : Value) (ms : List (List (Int × Int))) (h0 : 0 < ms.flatten.length) (h1 : ms.flatten.length ≤ 1000) (h2 : ms.length ≤ 1000) (w : World) (hv : Bdss w v ms) :
  Calls Tryz.prog 40 #[v] w (fun e w' => ∃ v, e = .returned v ∧ Bds w' 23 v ms.flatten ∧ Below w.heap.size w w') := by
 obtain ⟨b, off, c, rfl, hr⟩ := hv
 have HR := Lib.hid hr
 have H1 := Lib.hid h1
 have H2 := Lib.hid h2
 have h00 : 0 < tot ms ms.length := by unfold tot; rw [List.take_length]; exact h0
 have HG := Lib.hid (fun W => Grow_ok (tot ms ms.length) h00 (Nat.le_trans (tot_le ms _) h1) W)
 clear hr h0 h00 h1 h2
 go_enter Tryz.func40, Tryz.ntmps40
 go_wp2_with fail
 go_loopw [3, 11] (fun sv iv wr => ∃ k : Nat, k ≤ ms.length ∧ sv = .int .i64 (tot ms k : Nat) ∧ iv = .int .i64 (k : Nat) ∧ Hid (Below w.heap.size w wr)) (fun _ iv _ => ms.length - (intOf iv).toNat)
 case atStart => exact ⟨0, by omega, rfl, rfl, Lib.hid (Below.refl _ _)⟩
 case round =>
  obtain ⟨k, hk, rfl, rfl, HB⟩ := hrel
  rcases Nat.lt_or_ge k ms.length with hlt | hge
  ·obtain ⟨ad, c', x1, x2, -⟩ := HR.out k hlt
   have x3 := (HB.out.cell (p := ⟨b, off + k, none⟩) x1).trans x2
   have e := tot_succ hlt
   have l := tot_le ms (k + 1)
   have hkk : (k : Int) < (ms.length : Int) := by omega
   have hs : wrap64 ((tot ms k : Nat) + (ms[k].length : Int)) = ((tot ms (k + 1) : Nat) : Int) := by
    have := H1.out
    unfold wrap64
    omega
   have hw1 : wrap64 ((k : Int) + 1) = ((k + 1 : Nat) : Int) := by
    have := H2.out
    unfold wrap64
    omega
   have hn : ¬ (((tot ms (k + 1) : Nat) : Int) < 0) := by omega
   have HE := Lib.hid hw1
   have HS := Lib.hid hs
   clear e l x1 x2 hw1
   generalize ms[k].length = n at *
   go_wp2_with fail
   go_roundw
   case rel => exact ⟨k + 1, by omega, by rw [HS.out], by rw [HE.out], HB⟩
   case measure => rw [HE.out]; simp [intOf]; omega
  ·obtain rfl : k = ms.length := by omega
   go_wp2_with fail
   refine (HG.out _).mono ?_
   rintro e w1 ⟨v1, rfl, ho, hb⟩
   have HB1 := Lib.hid (Bt HB.out hb)
   have HO : Hid (Go.Fra.Own w1 w.heap.size 23 v1 []) := Lib.hid (ho.sub HB.out.size)
   clear ho hb HB
   go_wp2_with fail
   go_loopw [6, 27] (fun sv iv wr => ∃ k : Nat, k ≤ ms.length ∧ iv = .int .i64 (k : Nat) ∧ Hid (Go.Fra.Own wr w.heap.size 23 sv (ms.take k).flatten) ∧ Hid (Below w.heap.size w wr)) (fun _ iv _ => ms.length - (intOf iv).toNat)
   case atStart => exact ⟨0, by omega, rfl, HO, HB1⟩
   case round =>
    clear HO HB1
    obtain ⟨k, hk, rfl, HO, HB⟩ := hrel
    rcases Nat.lt_or_ge k ms.length with hlt | hge
    ·obtain ⟨ad, c', x1, x2, x4⟩ := HR.out k hlt
     have x3 := (HB.out.cell (p := ⟨b, off + k, none⟩) x1).trans x2
     have hkk : (k : Int) < (ms.length : Int) := by omega
     have hw1 : wrap64 ((k : Int) + 1) = ((k + 1 : Nat) : Int) := by
      have := H2.out
      unfold wrap64
      omega
     have HE := Lib.hid hw1
     have HS := Lib.hid (x4.later HB.out)
     have HL : Hid ((ms.take k).flatten.length + ms[k].length ≤ 1000) := Lib.hid (by
      have e := tot_succ hlt
      have l := tot_le ms (k + 1)
      have := H1.out
      unfold tot at e l
      omega)
     have HF := Lib.hid (flat_succ hlt)
     clear x1 x2 x4 hw1
     generalize ms[k] = m at *
     go_wp2_with (at_builtin; refine wpList_append rfl (.tmp 31) (.tmp 32) rfl rfl HO.out rfl HS.out HL.out HB.out.size ?_)
     intro v' w' g1 g2 g3
     have HB2 := Lib.hid (HB.out.grown g2 HB.out.size fun r hr => (HO.out.lt r hr).1)
     have HO2 := Lib.hid g1
     clear g1 g2 g3 HO HB
     go_wp2_with fail
     go_roundw
     case rel => exact ⟨k + 1, by omega, by rw [HE.out], by rw [HF.out]; exact HO2, HB2⟩
     case measure => rw [HE.out]; simp [intOf]; omega
    ·obtain rfl : k = ms.length := by omega
     go_wp2_with fail
     go_ret
     have h := HO.out
     rw [List.take_length] at h
     exact ⟨_, rfl, h.bds, HB.out⟩
end Go.Proofs.slices
namespace Go.Fra
open Go Go.RowKit Go.SW Go.Num Go.Mem Go.Proofs
theorem grown_setCell (w : World) (b o : Nat) (v : Value) : w.grownBy (w.setCell ⟨b, o, none⟩ v) (some b) :=
 ⟨rfl, rfl, rfl, ((Below.refl 0 w).setCell (Nat.zero_le _) v).size, fun k _ hk => Below.heap_setCell _ _ _ k (fun e => hk (by rw [e]))⟩
/-- The slice v reads as the drafts l. -/
def Drs (w : World) (v : Value) (l : List (Int × Int)) : Prop :=
 ∃ a cap, v = .slice a l.length cap ∧ l.length ≤ cap ∧ cap ≤ 9223372036854775807 ∧ ∀ k (_ : k < l.length), ∃ b off, a = some ⟨b, off, none⟩ ∧ b < w.heap.size ∧ w.cell? ⟨b, off + k * 2, none⟩ = some (.int .i64 l[k].1) ∧ w.cell? ⟨b, off + k * 2 + 1, none⟩ = some (.int .u32 l[k].2) ∧ 0 ≤ l[k].2 ∧ l[k].2 ≤ 4294967295
/-- The first of the bands. -/
theorem bds_take {w : World} {T : TypeId} {a : Option Addr} {n c : Nat} {l : List (Int × Int)} (h : Bds w T (.slice a n c) l) {k : Nat} (hk : k ≤ n) : Bds w T (.slice a k c) (l.take k) := by
 obtain ⟨a', cap, e, h1, h2, h3⟩ := h
 cases e
 have hl : (l.take k).length = k := by rw [List.length_take]; omega
 refine ⟨a, c, by rw [hl], by omega, h2, fun i hi => ?_⟩
 rw [hl] at hi
 rw [List.getElem_take]
 exact h3 i (by omega)
theorem drs_take {w : World} {a : Option Addr} {n c : Nat} {l : List (Int × Int)} (h : Drs w (.slice a n c) l) {k : Nat} (hk : k ≤ n) : Drs w (.slice a k c) (l.take k) := by
 obtain ⟨a', cap, e, h1, h2, h3⟩ := h
 cases e
 have hl : (l.take k).length = k := by rw [List.length_take]; omega
 refine ⟨a, c, by rw [hl], by omega, h2, fun i hi => ?_⟩
 rw [hl] at hi
 rw [List.getElem_take]
 exact h3 i (by omega)
theorem Drs.later {w w' : World} {v : Value} {l : List (Int × Int)} (h : Drs w v l) (hb : Below w.heap.size w w') : Drs w' v l := by
 obtain ⟨a, cap, h1, h2, h3, h4⟩ := h
 refine ⟨a, cap, h1, h2, h3, fun k hk => ?_⟩
 obtain ⟨b, off, h5, h6, h7, h8, h9⟩ := h4 k hk
 exact ⟨b, off, h5, Nat.lt_of_lt_of_le h6 hb.size, (hb.cell (p := ⟨b, off + k * 2, none⟩) h6).trans h7, (hb.cell (p := ⟨b, off + k * 2 + 1, none⟩) h6).trans h8, h9⟩
theorem drs_at {w : World} {a : Option Addr} {n c : Nat} {l : List (Int × Int)} (h : Drs w (.slice a n c) l) (hl : l.length = n) (k : Nat) (hk : k < n) :
  ∃ b off x y, a = some ⟨b, off, none⟩ ∧ b < w.heap.size ∧ w.cell? ⟨b, off + k * 2, none⟩ = some (.int .i64 x) ∧ w.cell? ⟨b, off + k * 2 + 1, none⟩ = some (.int .u32 y) ∧ 0 ≤ y ∧ y ≤ 4294967295 := by
 obtain ⟨a', cap, e, h1, h2, h3⟩ := h
 cases e
 obtain ⟨b, off, h4⟩ := h3 k hk
 exact ⟨b, off, _, _, h4⟩
theorem sliceTo (t e : TypeId) (ht : Tryz.prog.underlying t = some (.slice e)) (hs : ∀ W, (sizeOf e).run Tryz.prog W = .ok 2 W) (a : Option Addr) (n c m : Nat) (hm : m ≤ c) (W : World) :
  (Instr.sliceAt t (.slice a n c) none (some (.int .i64 (m : Int))) none).run Tryz.prog W = .ok (.slice a m c) W := by
 have he : Tryz.prog.elem t = e := by simp [Program.elem, ht]
 rw [run_sliceAt_slice (h := by rw [he]; exact ht), run_slice_h (ht := by rw [he]; exact ht) (h0 := by omega) (h2 := by omega), he, hs]
 simp only [Result.andThen, sliced, Nat.sub_zero, Int.toNat_natCast]
 split
 ·rfl
 ·cases a
  ·rfl
  ·rename_i ad
   simp [Addr.add]
end Go.Fra
namespace Go.SW
open Go Go.RowKit
variable {P : Program} {ops : Array Oper} {Q : Exit → Act → World → Prop}
/-- Operation y waits for x too. -/
def addL (x y : Nat) : Nat → List Oper → List Oper
 | _, [] => []
 | k, o :: l => (match k.beq y with
  | true => ⟨o.dst, o.op, o.type, o.pos, o.after.push ⟨x, .chain⟩, o.guard⟩
  | false => o) :: addL x y (k + 1) l
def addE (x y : Nat) (ops : Array Oper) : Array Oper := (addL x y 0 ops.toList).toArray
def wait (x : Nat) (o : Oper) : Oper := ⟨o.dst, o.op, o.type, o.pos, o.after.push ⟨x, .chain⟩, o.guard⟩
theorem addL_get (x y : Nat) : ∀ (l : List Oper) (k i : Nat), (addL x y k l)[i]? = (l[i]?).map fun o => if k + i = y then wait x o else o
 | [], _, _ => by simp [addL]
 | o :: l, k, 0 => by
  unfold addL
  rw [List.getElem?_cons_zero, List.getElem?_cons_zero]
  cases h : k.beq y with
  | true => rw [Nat.eq_of_beq_eq_true h]; simp [wait]
  | false =>
   have := Nat.ne_of_beq_eq_false h
   simp [this]
 | o :: l, k, i + 1 => by
  unfold addL
  rw [List.getElem?_cons_succ, List.getElem?_cons_succ, addL_get x y l (k + 1) i]
  have : k + 1 + i = k + (i + 1) := by omega
  rw [this]
theorem addE_get (x y i : Nat) (ops : Array Oper) : (addE x y ops)[i]? = (ops[i]?).map fun o => if i = y then wait x o else o := by
 unfold addE
 rw [List.getElem?_toArray, addL_get, Nat.zero_add, Array.getElem?_toList]
theorem addL_length (x y : Nat) : ∀ (l : List Oper) (k : Nat), (addL x y k l).length = l.length
 | [], _ => rfl
 | o :: l, k => by unfold addL; rw [List.length_cons, List.length_cons, addL_length x y l]
theorem addE_size (x y : Nat) (ops : Array Oper) : (addE x y ops).size = ops.size := by
 unfold addE
 rw [List.size_toArray, addL_length, Array.length_toList]
theorem addE_yielded (x y : Nat) (tmps : Array Value) (g : Nat) : yielded (addE x y ops) tmps g = yielded ops tmps g := by
 unfold yielded
 rw [addE_get]
 cases ops[g]? with
 | none => rfl
 | some o =>
  have e : (if g = y then wait x o else o).dst = o.dst := by split <;> rfl
  simp only [Option.map_some, Option.bind_some, e]
theorem addE_wpOps (x y : Nat) : ∀ (l : List Nat) (a : Act) (w : World), wpOps P (addE x y ops) Q l a w → wpOps P ops Q l a w
 | [], _, _, h => h
 | i :: l, a, w, h => by
  have ih := addE_wpOps x y l
  unfold wpOps at h ⊢
  rw [addE_get] at h
  have hy : yielded (addE x y ops) a.tmps = yielded ops a.tmps := funext fun g => addE_yielded x y _ g
  rw [hy] at h
  cases ho : ops[i]? with
  | none =>
   simp only [ho, Option.map_none] at h ⊢
   exact ih _ _ h
  | some o =>
   simp only [ho, Option.map_some] at h ⊢
   by_cases hi : i = y
   ·simp only [hi, if_true] at h
    have e1 : Region.wanted (wait x o) (yielded ops a.tmps) = Region.wanted o (yielded ops a.tmps) := rfl
    rw [e1] at h
    split
    ·rename_i hw
     simp only [hw, if_true] at h
     rcases h with h | h
     ·exact .inl (Oper.wp_mono ih h)
     ·exact .inr h
    ·rename_i hw
     simp only [hw, if_false, Bool.false_eq_true] at h
     exact ih _ _ h
   ·simp only [hi, if_false] at h
    split
    ·rename_i hw
     simp only [hw, if_true] at h
     rcases h with h | h
     ·exact .inl (Oper.wp_mono ih h)
     ·exact .inr h
    ·rename_i hw
     simp only [hw, if_false, Bool.false_eq_true] at h
     exact ih _ _ h
theorem ready_of {x y i : Nat} {listed : Array Bool} (h : i ∈ Region.ready .any ops listed) (hy : i = y → listed.getD x false = true) : i ∈ Region.ready .any (addE x y ops) listed := by
 obtain ⟨h1, o, h2, h3⟩ := mem_ready.1 h
 refine mem_ready.2 ⟨h1, _, by rw [addE_get, h2]; rfl, fun e he hb => ?_⟩
 split at he
 ·rename_i hi
  rcases Array.mem_push.1 he with he | he
  ·exact h3 e he hb
  ·rw [he]
   exact hy hi
 ·exact h3 e he hb
theorem ready_to {x y i : Nat} {listed : Array Bool} (h : i ∈ Region.ready .any (addE x y ops) listed) : i ∈ Region.ready .any ops listed := by
 obtain ⟨h1, o', h2, h3⟩ := mem_ready.1 h
 rw [addE_get] at h2
 cases ho : ops[i]? with
 | none => rw [ho] at h2; cases h2
 | some o =>
  rw [ho, Option.map_some, Option.some.injEq] at h2
  refine mem_ready.2 ⟨h1, o, ho, fun e he hb => h3 e ?_ hb⟩
  rw [← h2]
  split
  ·exact Array.mem_push.2 (.inl he)
  ·exact he
theorem go_pick {i fuel : Nat} {listed : Array Bool} (h : i ∈ Region.ready .any ops listed) (t : Nat) :
  ∃ t', Region.linearise.go .any ops (fuel + 1) t' listed [] = i :: Region.linearise.go .any ops fuel t (listed.setIfInBounds i true) [] := by
 obtain ⟨k, hk, hi⟩ := List.getElem_of_mem h
 refine ⟨k + (Region.ready .any ops listed).length * t, ?_⟩
 simp only [Region.linearise.go]
 change (match (Region.ready .any ops listed)[(k + (Region.ready .any ops listed).length * t) % (Region.ready .any ops listed).length]? with
   | some i => Region.linearise.go .any ops fuel ((k + (Region.ready .any ops listed).length * t) / (Region.ready .any ops listed).length) (listed.setIfInBounds i true) [i]
   | none => [].reverse) = _
 have e1 : (k + (Region.ready .any ops listed).length * t) % (Region.ready .any ops listed).length = k := by
  rw [Nat.add_mul_mod_self_left, Nat.mod_eq_of_lt hk]
 have e2 : (k + (Region.ready .any ops listed).length * t) / (Region.ready .any ops listed).length = t := by
  rw [Nat.add_mul_div_left _ _ (Nat.lt_of_le_of_lt (Nat.zero_le _) hk), Nat.div_eq_of_lt hk, Nat.zero_add]
 rw [e1, e2, List.getElem?_eq_getElem hk, hi]
 simp only []
 rw [linearise_go_acc, List.reverse_singleton, List.singleton_append]
/-- One order, step by step: it ends, or takes a ready operation. -/
theorem go_step (fuel t : Nat) (listed : Array Bool) :
  (Region.ready .any ops listed = [] ∧ Region.linearise.go .any ops (fuel + 1) t listed [] = []) ∨
  ∃ i ∈ Region.ready .any ops listed, ∃ t', Region.linearise.go .any ops (fuel + 1) t listed [] = i :: Region.linearise.go .any ops fuel t' (listed.setIfInBounds i true) [] := by
 simp only [Region.linearise.go]
 change (_ ∧ (match (Region.ready .any ops listed)[t % (Region.ready .any ops listed).length]? with
   | some i => Region.linearise.go .any ops fuel (t / (Region.ready .any ops listed).length) (listed.setIfInBounds i true) [i]
   | none => [].reverse) = []) ∨ ∃ i ∈ Region.ready .any ops listed, ∃ t', (match (Region.ready .any ops listed)[t % (Region.ready .any ops listed).length]? with
   | some i => Region.linearise.go .any ops fuel (t / (Region.ready .any ops listed).length) (listed.setIfInBounds i true) [i]
   | none => [].reverse) = _
 cases hi : (Region.ready .any ops listed)[t % (Region.ready .any ops listed).length]? with
 | none =>
  left
  refine ⟨?_, rfl⟩
  cases hr : Region.ready .any ops listed with
  | nil => rfl
  | cons x xs =>
   rw [hr] at hi
   have hlt : t % (x :: xs).length < (x :: xs).length := Nat.mod_lt _ (by simp)
   simp at hi
   simp at hlt
   omega
 | some i =>
  right
  refine ⟨i, List.mem_of_getElem? hi, t / (Region.ready .any ops listed).length, ?_⟩
  simp only []
  rw [linearise_go_acc, List.reverse_singleton, List.singleton_append]
theorem go_empty {fuel t : Nat} {listed : Array Bool} (h : Region.ready .any ops listed = []) : Region.linearise.go .any ops (fuel + 1) t listed [] = [] := by
 rcases go_step (ops := ops) fuel t listed with ⟨-, h2⟩ | ⟨i, hi, -⟩
 ·exact h2
 ·rw [h] at hi
  cases hi
/-- Once x is listed the new edge binds no more. -/
theorem go_listed {x y : Nat} : ∀ (fuel t : Nat) (listed : Array Bool), listed.getD x false = true → ∃ t', Region.linearise.go .any ops fuel t listed [] = Region.linearise.go .any (addE x y ops) fuel t' listed []
 | 0, t, listed, _ => ⟨t, rfl⟩
 | fuel + 1, t, listed, hx => by
  rcases go_step (ops := ops) fuel t listed with ⟨h1, h2⟩ | ⟨i, hi, t', h⟩
  ·refine ⟨0, ?_⟩
   rw [h2, go_empty]
   cases hr : Region.ready .any (addE x y ops) listed with
   | nil => rfl
   | cons i l =>
    have := ready_to (x := x) (y := y) (i := i) (by rw [hr]; exact List.mem_cons_self)
    rw [h1] at this
    cases this
  ·obtain ⟨t2, h2⟩ := go_listed fuel t' (listed.setIfInBounds i true) (getD_set_true hx)
   obtain ⟨t3, h3⟩ := go_pick (fuel := fuel) (ready_of (y := y) hi fun _ => hx) t2
   exact ⟨t3, by rw [h, h2, h3]⟩
theorem go_two {x y : Nat} (hxy : x ≠ y) : ∀ (fuel t : Nat) (listed : Array Bool),
  (∃ t', Region.linearise.go .any ops fuel t listed [] = Region.linearise.go .any (addE x y ops) fuel t' listed []) ∨
  (∃ t', Region.linearise.go .any ops fuel t listed [] = Region.linearise.go .any (addE y x ops) fuel t' listed [])
 | 0, t, listed => .inl ⟨t, rfl⟩
 | fuel + 1, t, listed => by
  rcases go_step (ops := ops) fuel t listed with ⟨h1, h2⟩ | ⟨i, hi, t', h⟩
  ·refine .inl ⟨0, ?_⟩
   rw [h2, go_empty]
   cases hr : Region.ready .any (addE x y ops) listed with
   | nil => rfl
   | cons i l =>
    have := ready_to (x := x) (y := y) (i := i) (by rw [hr]; exact List.mem_cons_self)
    rw [h1] at this
    cases this
  ·have hset : ∀ j, i = j → (listed.setIfInBounds i true).getD j false = true := fun j hj => by
    subst hj
    have := (mem_ready.1 hi).1
    rcases Nat.lt_or_ge i listed.size with h' | h'
    ·simp [h']
    ·simp [Array.getElem?_eq_none h'] at this
   by_cases hix : i = x
   ·obtain ⟨t2, h2⟩ := go_listed (ops := ops) (x := x) (y := y) fuel t' _ (hset x hix)
    obtain ⟨t3, h3⟩ := go_pick (fuel := fuel) (ready_of (x := x) (y := y) hi fun e => absurd (hix.symm.trans e) hxy) t2
    exact .inl ⟨t3, by rw [h, h2, h3]⟩
   ·by_cases hiy : i = y
    ·obtain ⟨t2, h2⟩ := go_listed (ops := ops) (x := y) (y := x) fuel t' _ (hset y hiy)
     obtain ⟨t3, h3⟩ := go_pick (fuel := fuel) (ready_of (x := y) (y := x) hi fun e => absurd e hix) t2
     exact .inr ⟨t3, by rw [h, h2, h3]⟩
    ·rcases go_two hxy fuel t' (listed.setIfInBounds i true) with ⟨t2, h2⟩ | ⟨t2, h2⟩
     ·obtain ⟨t3, h3⟩ := go_pick (fuel := fuel) (ready_of (x := x) (y := y) hi fun e => absurd e hiy) t2
      exact .inl ⟨t3, by rw [h, h2, h3]⟩
     ·obtain ⟨t3, h3⟩ := go_pick (fuel := fuel) (ready_of (x := y) (y := x) hi fun e => absurd e hix) t2
      exact .inr ⟨t3, by rw [h, h2, h3]⟩
/-- Every order of a region, from its start. -/
structure Reg (P : Program) (ops : Array Oper) (Q : Exit → Act → World → Prop) (a : Act) (w : World) : Prop where
 out : ∀ t, wpOps P ops Q (Region.linearise .any ops t) a w
theorem reg_in {id : Nat} {a : Act} {w : World} (hm : P.follows .mixedOrders = true) (h : Reg P ops Q a w.drew) : (Code.region id ops true).wp P Q a w :=
 wp_region_draw fun t => by
  simp only [Region.schedule, hm, Bool.true_or, if_true]
  exact h.out t
theorem reg_two {a : Act} {w : World} (x y : Nat) (hxy : x ≠ y) (h1 : Reg P (addE x y ops) Q a w) (h2 : Reg P (addE y x ops) Q a w) : Reg P ops Q a w := ⟨fun t => by
 unfold Region.linearise
 rcases go_two (ops := ops) hxy ops.size t (Array.replicate ops.size false) with ⟨t', h⟩ | ⟨t', h⟩
 ·rw [h]
  have := h1.out t'
  unfold Region.linearise at this
  rw [addE_size] at this
  exact addE_wpOps x y _ _ _ this
 ·rw [h]
  have := h2.out t'
  unfold Region.linearise at this
  rw [addE_size] at this
  exact addE_wpOps y x _ _ _ this⟩
/-- Each operation waits only for those that stand ahead of it in the list. -/
def orderedBy (l : List Nat) (ops : Array Oper) : Bool := (List.range ops.size).all fun i => match ops[i]? with
 | some o => o.after.all (fun e => !Region.binds .any e || (decide (l.idxOf e.on < l.idxOf i) && decide (e.on < ops.size)))
 | none => true
theorem led_by {l : List Nat} (ho : orderedBy l ops = true) : Led ops := fun listed hsz hr i hi => by
 have key : ∀ n i, l.idxOf i = n → i < ops.size → listed.getD i true = true := by
  intro n
  induction n using Nat.strongRecOn with
  | _ n ih =>
   intro i hn hi
   cases hl : listed.getD i true with
   | true => rfl
   | false =>
    exfalso
    have ho' : ops[i]? = some ops[i] := by simp [hi]
    have hmem : i ∈ Region.ready .any ops listed := mem_ready.2 ⟨hl, ops[i], ho', fun e he hb => by
     unfold orderedBy at ho
     have h1 := List.all_eq_true.1 ho i (List.mem_range.2 hi)
     simp only [ho'] at h1
     have h2 := Array.all_eq_true_iff_forall_mem.1 h1 e he
     simp only [hb, Bool.not_true, Bool.false_or, Bool.and_eq_true, decide_eq_true_eq] at h2
     have h3 := ih _ (by omega) e.on rfl h2.2
     have : e.on < listed.size := by omega
     simpa [this] using h3⟩
    rw [hr] at hmem
    cases hmem
 exact key _ i rfl hi
def check2 (ops : Array Oper) (is : List (K × Nat)) : Bool :=
 Region.noSelect ops && orderedBy (is.map (·.2)) ops && okList ops is && decide (is.map (·.2)).Nodup && decide (is.length ≤ ops.size) && (List.range ops.size).all (fun i => (is.map (·.2)).contains i)
theorem reg_walk {a : Act} {w : World} (is : List (K × Nat)) (hc : check2 ops is = true) (hal : AllocRuns P ops is)
  (hQ : ∀ c (a s : Act) w, s.defers = a.defers → Q (.panic c) a w → Q (.panic c) s w)
  (h : walk P ops Q w.heap.size is [] a w) : Reg P ops Q a w := ⟨fun t => by
 unfold check2 at hc
 simp only [Bool.and_eq_true, decide_eq_true_eq] at hc
 obtain ⟨⟨⟨⟨⟨h1, h2⟩, h3⟩, h4⟩, h5⟩, h6⟩ := hc
 unfold Region.linearise
 refine wpAny_sound _ _ _ _ _ ?_
 refine phase_main h1 (led_by h2) hQ w.heap.size ops.size is [] [] [] _ a a w ?_ ?_ h3 h4 (by simp) (by simp) hal ?_ h
 ·rw [allocWith_nil]; exact h5
 ·refine ⟨by simp, fun i hi => ?_, fun j o hj hl => ?_, rfl, rfl, fun t _ _ => rfl, by simp, by simp, by simp, by simp⟩
  ·have hmem : i ∈ is.map (·.2) := by simpa using List.all_eq_true.1 h6 i (List.mem_range.2 hi)
   simp [hi]
   simpa using hmem
  ·have hj' := (Array.getElem?_eq_some_iff.1 hj).1
   simp [hj'] at hl
 ·exact ⟨by simp, by simp, by simp, by simp, Nat.le_refl _⟩⟩
end Go.SW
namespace Go.SW
open Go Go.RowKit
variable {P : Program} {ops : Array Oper} {Q : Exit → Act → World → Prop}
theorem addE_some {x y i : Nat} {o : Oper} (h : ops[i]? = some o) : ∃ o', (addE x y ops)[i]? = some o' ∧ o'.dst = o.dst ∧ o'.op = o.op ∧ o'.guard = o.guard ∧ (∀ (a : Act) (w : World) K R, o.wp P a w K R → o'.wp P a w K R) ∧ (∀ f, Region.wanted o' f = Region.wanted o f) ∧ (∀ ρ, execOp ρ o' = execOp ρ o) ∧ ∀ (a : Act) (w : World), Oper.asks P o a w → Oper.asks P o' a w := by
 refine ⟨_, by rw [addE_get, h]; rfl, ?_, ?_, ?_, ?_, ?_, ?_, ?_⟩
 all_goals split <;> first | rfl | exact fun _ _ _ _ h => h | exact fun _ => rfl | exact fun _ _ h => h
theorem addE_wpOps' (x y : Nat) : ∀ (l : List Nat) (a : Act) (w : World), wpOps P ops Q l a w → wpOps P (addE x y ops) Q l a w
 | [], _, _, h => h
 | i :: l, a, w, h => by
  have ih := addE_wpOps' x y l
  unfold wpOps at h ⊢
  have hy : yielded (addE x y ops) a.tmps = yielded ops a.tmps := funext fun g => addE_yielded x y _ g
  rw [hy]
  cases ho : ops[i]? with
  | none =>
   rw [addE_get, ho, Option.map_none]
   simp only [ho] at h ⊢
   exact ih _ _ h
  | some o =>
   obtain ⟨o', h1, h2, h3, h4, h5, h6, h7, h8⟩ := addE_some (P := P) (x := x) (y := y) ho
   rw [h1]
   simp only [ho, h6, h2] at h ⊢
   split at h
   ·rename_i hw
    rw [if_pos hw]
    rcases h with h | h
    ·exact .inl (h5 _ _ _ _ (Oper.wp_mono ih h))
    ·exact .inr ⟨h8 _ _ h.1, h.2⟩
   ·rename_i hw
    rw [if_neg hw]
    exact ih _ _ h
theorem walk_addE (x y N : Nat) : ∀ (is : List (K × Nat)) (A : List Nat) (a : Act) (w : World), walk P ops Q N is A a w → walk P (addE x y ops) Q N is A a w
 | [], _, _, _, h => h
 | (k, i) :: is, A, a, w, h => by
  have ih := walk_addE x y N is
  unfold walk at h ⊢
  have hy : yielded (addE x y ops) a.tmps = yielded ops a.tmps := funext fun g => addE_yielded x y _ g
  rw [hy]
  cases ho : ops[i]? with
  | none => rw [ho] at h; exact h.elim
  | some o =>
   obtain ⟨o', h1, h2, h3, h4, h5, h6, h7, h8⟩ := addE_some (P := P) (x := x) (y := y) ho
   rw [ho] at h
   rw [h1]
   cases k with
   | pure =>
    simp only [h6, h7, h2] at h ⊢
    split at h
    ·rename_i hw
     rw [if_pos hw]
     obtain ⟨v, k1, k2⟩ := h
     exact ⟨v, k1, ih _ _ _ k2⟩
    ·rename_i hw
     rw [if_neg hw]
     exact ih _ _ _ h
   | read =>
    simp only [h6, h7, h2] at h ⊢
    split at h
    ·rename_i hw
     rw [if_pos hw]
     obtain ⟨v, k1, k2⟩ := h
     exact ⟨v, k1, ih _ _ _ k2⟩
    ·rename_i hw
     rw [if_neg hw]
     exact ih _ _ _ h
   | alloc cs T =>
    simp only [h2] at h ⊢
    exact fun b w' k1 k2 k3 k4 k5 => ih _ _ _ (h b w' k1 k2 k3 k4 k5)
   | ext =>
    simp only [h6, h2] at h ⊢
    split at h
    ·rename_i hw
     rw [if_pos hw]
     exact fun w' k1 => h5 _ _ _ _ (Oper.wp_mono (fun a' w'' k => ⟨k.1, ih _ _ _ k.2⟩) (h w' k1))
    ·rename_i hw
     rw [if_neg hw]
     exact ih _ _ _ h
   | fin =>
    exact fun w' k1 => addE_wpOps' x y _ _ _ (h w' k1)
/-- A step, or two calls in either order. -/
inductive St | one (k : K) (i : Nat) | two (i j : Nat)
variable {o : Oper} {i : Nat} {is : List St} {a : Act} {w : World} {N : Nat} {A : List Nat}
end Go.SW
namespace Go.Proofs.verdigrislaw04
open Go Go.RowKit Go.SW Go.Num Go.Mem Go.Proofs Go.Dec Go.Fra Go.Proofs.band Go.Proofs.power
theorem min8 (n : Nat) : ∃ m : Nat, m ≤ n ∧ m ≤ 8 ∧ (∀ (ts : Array TypeId) (t : TypeId) (W : World), (Builtin.min_ ts t #[.int .i64 (n : Int), .int .i64 8]).run Tryz.prog W = .ok (.int .i64 (m : Int)) W) := by
 rcases Nat.lt_or_ge 8 n with h | h
 ·refine ⟨8, by omega, by omega, fun ts t W => ?_⟩
  have h1 : (8 : Int) < (n : Int) := by omega
  rw [run_min_int2]; simp [h1]
 ·refine ⟨n, by omega, by omega, fun ts t W => ?_⟩
  have h1 : ¬ (8 : Int) < (n : Int) := by omega
  rw [run_min_int2]; simp [h1]
theorem wp_ends {P : Program} {c : Code} {Q : Exit → Act → World → Prop} {a : Act} {w : World} (F : Act → Value → Value → Value → Value → Act) (R : Value → Value → World → Prop) (h : c.wp P (fun e a' w' => e = .normal ∧ ∃ x y v5 v6, a' = F a x y v5 v6 ∧ R v5 v6 w') a w) (k : ∀ x y v5 v6 w', R v5 v6 w' → Q .normal (F a x y v5 v6) w') : c.wp P Q a w :=
 Code.wp_mono (fun e a' w' ⟨h1, x, y, v5, v6, h2, h3⟩ => by
  subst h1 h2
  exact k _ _ _ _ _ h3) h
/-- What one round of the first loop computes. -/
structure Stp (L : List (Int × Int)) (b : Int × Int) (s1 s2 n1 n2 p1 p2 y1 y2 : Int) : Prop where
 h1 : ng b = (n1, n2)
 h2 : sm (L ++ [b]) = (y1, y2)
 h3 : ∀ c ∈ L ++ [b], Sm c
 h4 : ∀ W, Calls Tryz.prog 37 #[.agg #[.int .i64 b.1, .int .i64 b.2]] W (fun e w' => e = .returned (.tuple #[.agg #[.int .i64 n1, .int .i64 n2], .int .i64 0]) ∧ Below W.heap.size W w')
 h5 : ∀ W, Calls Tryz.prog 38 #[.agg #[.int .i64 b.1, .int .i64 b.2]] W (fun e w' => e = .returned (.tuple #[.agg #[.int .i64 p1, .int .i64 p2], .int .i64 0]) ∧ Below W.heap.size W w')
 h6 : ∀ W, Calls Tryz.prog 39 #[.agg #[.int .i64 s1, .int .i64 s2], .agg #[.int .i64 p1, .int .i64 p2]] W (fun e w' => e = .returned (.tuple #[.agg #[.int .i64 y1, .int .i64 y2], .int .i64 0]) ∧ Below W.heap.size W w')
 h7 : ∀ (v : Value) W, Bds W 23 v [b] → Bld.Pow W → whole.Er W → Calls Tryz.prog 25 #[v] W (fun e w' => e = .returned (.tuple #[.agg #[.int .i64 p1, .int .i64 p2], .int .i64 0]) ∧ Below W.heap.size W w')
theorem step_facts {L : List (Int × Int)} {lo hi : Int} (h : ∀ c ∈ L, Sm c) (hb : Sm (lo, hi)) (h8 : L.length < 8) {s1 s2 : Int} (hs : sm L = (s1, s2)) : ∃ n1 n2 p1 p2 y1 y2, Stp L (lo, hi) s1 s2 n1 n2 p1 p2 y1 y2 := by
 have h3 : ∀ c ∈ L ++ [(lo, hi)], Sm c := fun c hc => by
  rcases List.mem_append.1 hc with hc | hc
  ·exact h c hc
  ·rw [List.mem_singleton.1 hc]; exact hb
 refine ⟨(ng (lo, hi)).1, (ng (lo, hi)).2, blo (lo, hi), bhi (lo, hi), (sm (L ++ [(lo, hi)])).1, (sm (L ++ [(lo, hi)])).2, rfl, rfl, h3, fun W => ?_, fun W => ?_, fun W => ?_, fun v W k1 k2 k3 => ?_⟩
 ·have := band.Neg_ok lo hi W
  rw [hb.neg] at this
  exact this
 ·have := band.Abs_ok lo hi W
  rw [hb.abs] at this
  exact this
 ·have := band.Add_ok s1 s2 (blo (lo, hi)) (bhi (lo, hi)) W
  rw [← hs, sm_snoc h3 (by simp; omega)] at this
  exact this
 ·have := power.Norm_ok v 23 [(lo, hi)] W k1 k2 k3
  rw [nrm_one hb] at this
  exact this
theorem Stp.hids {L : List (Int × Int)} {lo hi s1 s2 n1 n2 p1 p2 y1 y2 : Int} (h : Stp L (lo, hi) s1 s2 n1 n2 p1 p2 y1 y2) : Hid (ng (lo, hi) = (n1, n2)) ∧ Hid (sm (L ++ [(lo, hi)]) = (y1, y2)) ∧ Hid (∀ c ∈ L ++ [(lo, hi)], Sm c) ∧
  Hid (∀ W, Calls Tryz.prog 37 #[.agg #[.int .i64 lo, .int .i64 hi]] W (fun e w' => e = .returned (.tuple #[.agg #[.int .i64 n1, .int .i64 n2], .int .i64 0]) ∧ Below W.heap.size W w')) ∧
  Hid (∀ W, Calls Tryz.prog 38 #[.agg #[.int .i64 lo, .int .i64 hi]] W (fun e w' => e = .returned (.tuple #[.agg #[.int .i64 p1, .int .i64 p2], .int .i64 0]) ∧ Below W.heap.size W w')) ∧
  Hid (∀ W, Calls Tryz.prog 39 #[.agg #[.int .i64 s1, .int .i64 s2], .agg #[.int .i64 p1, .int .i64 p2]] W (fun e w' => e = .returned (.tuple #[.agg #[.int .i64 y1, .int .i64 y2], .int .i64 0]) ∧ Below W.heap.size W w')) ∧
  Hid (∀ (v : Value) W, Bds W 23 v [(lo, hi)] → Bld.Pow W → whole.Er W → Calls Tryz.prog 25 #[v] W (fun e w' => e = .returned (.tuple #[.agg #[.int .i64 p1, .int .i64 p2], .int .i64 0]) ∧ Below W.heap.size W w')) :=
 ⟨Lib.hid h.h1, Lib.hid h.h2, Lib.hid h.h3, Lib.hid h.h4, Lib.hid h.h5, Lib.hid h.h6, Lib.hid h.h7⟩
theorem end_facts {L : List (Int × Int)} (h : ∀ b ∈ L, Sm b) (h1 : 1 ≤ L.length) (h8 : L.length ≤ 8) {s1 s2 : Int} (hs : sm L = (s1, s2)) (j : Nat) : ∃ z1 z2 : Int, nrmE L = ((z1, z2), 0) ∧ nrmE ((L.map ng).drop j ++ (L.map ng).take j) = ((z1, z2), 0) ∧ z2 ≤ s2 ∧ z1 ≤ s1 ∧
  ∀ i (hi : i < L.length), ∃ p1 p2 : Int, absE L[i].1 L[i].2 = ((p1, p2), 0) ∧ p1 ≤ z1 ∧ p2 ≤ z2 := by
 have a1 := nlo_sum (L.map blo)
 have a2 := nhi_sum (L.map bhi)
 unfold sm at hs
 cases hs
 refine ⟨_, _, nrm_small h h1 h8, nrm_turn h h1 h8 j, by omega, by omega, fun i hi => ⟨_, _, (h _ (List.getElem_mem hi)).abs, ?_, ?_⟩⟩
 ·have := mem_nlo (x := blo L[i]) (l := L.map blo) (List.mem_map.2 ⟨_, List.getElem_mem hi, rfl⟩)
  omega
 ·have := mem_nhi (x := bhi L[i]) (l := L.map bhi) (List.mem_map.2 ⟨_, List.getElem_mem hi, rfl⟩)
  omega
theorem bds_drop {w : World} {T : TypeId} {g n c : Nat} {l : List (Int × Int)} (h : Bds w T (.slice (some ⟨g, 0, none⟩) n c) l) {j : Nat} (hj : j ≤ n) : Bds w T (.slice (some ⟨g, j * 2, none⟩) (n - j) (c - j)) (l.drop j) := by
 obtain ⟨a', cap, e, h1, h2, h3⟩ := h
 cases e
 refine ⟨some ⟨g, j * 2, none⟩, c - j, by rw [List.length_drop], by rw [List.length_drop]; omega, by omega, fun i hi => ?_⟩
 rw [List.length_drop] at hi
 obtain ⟨b, off, e, k1, k2, k3⟩ := h3 (j + i) (by omega)
 cases e
 rw [List.getElem_drop]
 have e1 : (j + i) * 2 = j * 2 + i * 2 := Nat.add_mul _ _ _
 rw [Nat.zero_add, e1] at k2 k3
 exact ⟨g, j * 2, rfl, k1, k2, k3⟩
theorem sliceFrom (t e : TypeId) (ht : Tryz.prog.underlying t = some (.slice e)) (hs : ∀ W, (sizeOf e).run Tryz.prog W = .ok 2 W) (g n c j : Nat) (hj : j ≤ n) (hc : j < c) (W : World) :
  (Instr.sliceAt t (.slice (some ⟨g, 0, none⟩) n c) (some (.int .i64 (j : Int))) none none).run Tryz.prog W = .ok (.slice (some ⟨g, j * 2, none⟩) (n - j) (c - j)) W := by
 have he : Tryz.prog.elem t = e := by simp [Program.elem, ht]
 rw [run_sliceAt_slice (h := by rw [he]; exact ht), run_slice_l (ht := by rw [he]; exact ht) (h0 := by omega) (h1 := by omega), he, hs]
 simp only [Result.andThen, sliced, Int.toNat_natCast]
 rw [if_neg (by omega), Option.map_some, Addr.add_lit, Nat.zero_add]
theorem bdss_two {w : World} {b n1 n2 c1 c2 : Nat} {a1 a2 : Addr} {T : TypeId} {m1 m2 : List (Int × Int)} (h : Box w b #[.slice (some a1) n1 c1, .slice (some a2) n2 c2] T) (h1 : Bds w 23 (.slice (some a1) n1 c1) m1) (h2 : Bds w 23 (.slice (some a2) n2 c2) m2) : Bdss w (.slice (some ⟨b, 0, none⟩) 2 2) [m1, m2] := by
 have e1 : n1 = m1.length := by obtain ⟨a', cap, e, -⟩ := h1; cases e; rfl
 have e2 : n2 = m2.length := by obtain ⟨a', cap, e, -⟩ := h2; cases e; rfl
 subst e1 e2
 refine ⟨b, 0, 2, rfl, fun k hk => ?_⟩
 obtain rfl | rfl : k = 0 ∨ k = 1 := by have : k < 2 := hk; omega
 ·exact ⟨a1, c1, h.lt, by rw [h.cell]; rfl, h1⟩
 ·exact ⟨a2, c2, h.lt, by rw [h.cell]; rfl, h2⟩
theorem abs_at {w : World} {a : Option Addr} {n c : Nat} {l : List (Int × Int)} {z1 z2 : Int} {T : TypeId} (h : Bds w T (.slice a n c) l) (hl : l.length = n) (hk5 : ∀ i (hi : i < l.length), ∃ p1 p2 : Int, absE l[i].1 l[i].2 = ((p1, p2), 0) ∧ p1 ≤ z1 ∧ p2 ≤ z2) (k : Nat) (hk : k < n) :
  ∃ b off x y, a = some ⟨b, off, none⟩ ∧ b < w.heap.size ∧ w.cell? ⟨b, off + k * 2, none⟩ = some (.int .i64 x) ∧ w.cell? ⟨b, off + k * 2 + 1, none⟩ = some (.int .i64 y) ∧ ∃ p1 p2 : Int,
   (∀ W, Calls Tryz.prog 38 #[.agg #[.int .i64 x, .int .i64 y]] W (fun e w' => e = .returned (.tuple #[.agg #[.int .i64 p1, .int .i64 p2], .int .i64 0]) ∧ Below W.heap.size W w')) ∧ p1 ≤ z1 ∧ p2 ≤ z2 := by
 obtain ⟨a', cap, e, h1, h2, h3⟩ := h
 cases e
 obtain ⟨b, off, e, g1, g2, g3⟩ := h3 k (by omega)
 obtain ⟨p1, p2, k1, k2, k3⟩ := hk5 k (by omega)
 refine ⟨b, off, _, _, e, g1, g2, g3, p1, p2, fun W => ?_, k2, k3⟩
 have := band.Abs_ok l[k].1 l[k].2 W
 rw [k1] at this
 exact this
theorem concat_two {l : List (Int × Int)} {j : Nat} (h0 : 0 < l.length) (h1 : l.length ≤ 1000) (v : Value) (w : World) (hv : Bdss w v [l.drop j, l.take j]) :
  Calls Tryz.prog 40 #[v] w (fun e w' => ∃ v, e = .returned v ∧ Bds w' 23 v (l.drop j ++ l.take j) ∧ Below w.heap.size w w') := by
 have e : [l.drop j, l.take j].flatten = l.drop j ++ l.take j := by simp
 have el : [l.drop j, l.take j].flatten.length = l.length := by
  rw [e, List.length_append, List.length_drop, List.length_take]
  omega
 have := slices.Concat_ok v _ (by omega) (by omega) (by simp) w hv
 rw [e] at this
 exact this
set_option maxRecDepth 10000 in
set_option maxHeartbeats 4000000 in
theorem PowerLengths_main (a2 : Option Addr) (n2 c2 : Nat) (l2 : List (Int × Int)) (turn : Int) (t0 : 0 ≤ turn) (t1 : turn ≤ 255) (w : World) (H2 : Drs w (.slice a2 n2 c2) l2) (ht : Bld.Pow w) (he : whole.Er w) :
  Calls Tryz.prog 9 #[.slice a2 n2 c2, .int .u8 turn] w (fun e w' => e = .returned (.bool true) ∧ Below w.heap.size w w') := by
 have HP := Lib.hid ht
 have HE := Lib.hid he
 have HT := Lib.hid (And.intro t0 t1)
 have HW := Lib.hid (fun W h1 h2 => works_ok W h1 h2)
 clear ht he t0 t1
 obtain ⟨m2, k3, k4, hmin2⟩ := min8 n2
 have hc2 : n2 ≤ c2 := by obtain ⟨a', cap, e, h1, -⟩ := H2; cases e; exact h1
 have hsl2 := sliceTo 56 26 Tryz.underlying56 (fun W => by kernel_rfl) a2 n2 c2 m2 (by omega)
 have HD := Lib.hid (drs_take H2 k3)
 have hl2 : (l2.take m2).length = m2 := by obtain ⟨a', cap, e, -⟩ := H2; cases e; rw [List.length_take]; omega
 generalize l2.take m2 = r2 at *
 have HL := Lib.hid hl2
 have HM := Lib.hid k4
 clear H2 k3 k4 hc2 hl2
 go_enter Tryz.func9, Tryz.ntmps9
 go_wp2_with fail
 refine (HW.out _ HP.out HE.out).mono ?_
 rintro e w1 ⟨rfl, hb1⟩
 have HB := Lib.hid hb1
 clear hb1 HW
 go_wp2_with fail
 obtain ⟨wx, EW, hz, X7⟩ := al1 w1 #[.int .i64 0, .int .i64 0] 23
 rw [EW]
 clear EW
 obtain ⟨g7, eg⟩ : ∃ g, w1.heap.size = g := ⟨_, rfl⟩
 have HG7 : Hid (w.heap.size ≤ g7) := Lib.hid (by have := HB.out.size; omega)
 replace HB := Lib.hid (Bt HB.out hz)
 clear hz
 rw [eg] at X7 ⊢
 clear eg
 go_loopw [5, 6, 33] (fun lv ov iv wr => ∃ (k : Nat) (L : List (Int × Int)) (s1 s2 : Int), k ≤ m2 ∧ iv = .int .i64 (k : Int) ∧ Hid (L.length = k ∧ (∀ b ∈ L, Sm b) ∧ sm L = (s1, s2)) ∧ Hid (Go.Fra.Own wr (g7 + 1) 23 lv L) ∧ Hid (Go.Fra.Own wr (g7 + 1) 23 ov (L.map ng)) ∧ Hid (∀ r, lv.ownBlock = some r → ov.ownBlock ≠ some r) ∧ Hid (Box wr g7 #[.int .i64 s1, .int .i64 s2] 23) ∧ Hid (Below w.heap.size w wr)) (fun _ _ iv _ => m2 - (intOf iv).toNat)
 case atStart => exact ⟨0, [], 0, 0, by omega, rfl, Lib.hid ⟨rfl, (fun b h => absurd h List.not_mem_nil), rfl⟩, Lib.hid (Own.nil _ _ _), Lib.hid (Own.nil _ _ _), Lib.hid (fun r h => by cases h), X7, HB⟩
 case round =>
  clear HB X7
  obtain ⟨k, L, s1, s2, hk, rfl, HK, O5, O6, HN, X7, HB⟩ := hrel
  rcases Nat.lt_or_ge k m2 with hlt | hge
  ·obtain ⟨b, off, d1, d2, rfl, hb0, hx1, hx2, hw0, hw1⟩ := drs_at HD.out HL.out k hlt
   have x1 := (HB.out.cell (p := ⟨b, off + k * 2, none⟩) hb0).trans hx1
   have x2 := (HB.out.cell (p := ⟨b, off + k * 2 + 1, none⟩) hb0).trans hx2
   clear hx1 hx2
   have hkk : (k : Int) < (m2 : Int) := by omega
   have HW1 : Hid (wrap64 ((k : Int) + 1) = ((k + 1 : Nat) : Int)) := Lib.hid (by have := HM.out; unfold wrap64; omega)
   have H13 := Lib.hid (fun W => Small_ok d1 d2 hw0 hw1 W)
   clear hw0 hw1
   go_wp2_with fail
   have HR5 : Hid (∀ r, u5.ownBlock = some r → r < wr.heap.size) := Lib.hid fun r h => (O5.out.lt r h).2
   have HR6 : Hid (∀ r, u6.ownBlock = some r → r < wr.heap.size) := Lib.hid fun r h => (O6.out.lt r h).2
   have HWR : Hid (Below wr.heap.size wr wr) := Lib.hid (Below.refl _ _)
   have HG7r : Hid (g7 < wr.heap.size) := Lib.hid X7.out.lt
   obtain ⟨wy, EW, hz, -⟩ := al1 wr #[.int .i64 d1, .int .u32 d2] 26
   rw [EW]
   clear EW
   replace O5 := Lib.hid (O5.out.later hz)
   replace O6 := Lib.hid (O6.out.later hz)
   replace X7 := X7.bl hz
   replace HB := Lib.hid (Bt HB.out hz)
   replace HWR := Lib.hid (Bt HWR.out hz)
   clear hz
   clear x1 x2 hkk
   refine (H13.out _).mono ?_
   rintro e w2 ⟨⟨lo, hi, rfl, b1, b2, b3⟩, hb⟩
   have HS : Hid (Sm (lo, hi)) := Lib.hid ⟨b1, b2, b3⟩
   replace O5 := Lib.hid (O5.out.later hb)
   replace O6 := Lib.hid (O6.out.later hb)
   replace X7 := X7.bl hb
   replace HB := Lib.hid (Bt HB.out hb)
   replace HWR := Lib.hid (Bt HWR.out hb)
   clear hb b1 b2 b3 H13
   obtain ⟨n1, n2, p1, p2, y1, y2, HF⟩ := step_facts HK.out.2.1 HS.out (by have := HK.out.1; have := HM.out; omega) HK.out.2.2
   obtain ⟨F1, F2, F3, F4, F5, F6, F7⟩ := HF.hids
   clear HF
   go_wp2_with fail
   obtain ⟨w3, EW, hz, X10⟩ := al1 w2 #[.int .i64 lo, .int .i64 hi] 23
   rw [EW]
   clear EW
   obtain ⟨g10, eg⟩ : ∃ g, w2.heap.size = g := ⟨_, rfl⟩
   have HGg10 : Hid (wr.heap.size ≤ g10) := Lib.hid (by have := HWR.out.size; omega)
   rw [eg] at X10 ⊢
   clear eg
   replace O5 := Lib.hid (O5.out.later hz)
   replace O6 := Lib.hid (O6.out.later hz)
   replace X7 := X7.bl hz
   replace HB := Lib.hid (Bt HB.out hz)
   replace HWR := Lib.hid (Bt HWR.out hz)
   clear hz
   refine (F4.out _).mono ?_
   rintro e w4 ⟨rfl, hb⟩
   replace O5 := Lib.hid (O5.out.later hb)
   replace O6 := Lib.hid (O6.out.later hb)
   replace X7 := X7.bl hb
   replace HB := Lib.hid (Bt HB.out hb)
   replace HWR := Lib.hid (Bt HWR.out hb)
   replace X10 := X10.bl hb
   clear hb F4
   obtain ⟨c10, l10⟩ := X10.cl
   go_wp2_with fail
   clear c10 l10
   obtain ⟨w5, EW, hz, X11⟩ := al1 w4 #[.int .i64 n1, .int .i64 n2] 23
   rw [EW]
   clear EW
   obtain ⟨g11, eg⟩ : ∃ g, w4.heap.size = g := ⟨_, rfl⟩
   have HGg11 : Hid (wr.heap.size ≤ g11) := Lib.hid (by have := HWR.out.size; omega)
   rw [eg] at X11 ⊢
   clear eg
   replace O5 := Lib.hid (O5.out.later hz)
   replace O6 := Lib.hid (O6.out.later hz)
   replace X7 := X7.bl hz
   replace HB := Lib.hid (Bt HB.out hz)
   replace HWR := Lib.hid (Bt HWR.out hz)
   replace X10 := X10.bl hz
   clear hz
   refine (F5.out _).mono ?_
   rintro e w6 ⟨rfl, hb⟩
   replace O5 := Lib.hid (O5.out.later hb)
   replace O6 := Lib.hid (O6.out.later hb)
   replace X7 := X7.bl hb
   replace HB := Lib.hid (Bt HB.out hb)
   replace HWR := Lib.hid (Bt HWR.out hb)
   replace X10 := X10.bl hb
   replace X11 := X11.bl hb
   clear hb F5
   obtain ⟨c10, l10⟩ := X10.cl
   obtain ⟨c11, l11⟩ := X11.cl
   go_wp2_with fail
   clear c10 l10 c11 l11
   obtain ⟨w7, EW, hz, X13⟩ := al1 w6 #[.int .i64 p1, .int .i64 p2] 23
   rw [EW]
   clear EW
   obtain ⟨g13, eg⟩ : ∃ g, w6.heap.size = g := ⟨_, rfl⟩
   have HGg13 : Hid (wr.heap.size ≤ g13) := Lib.hid (by have := HWR.out.size; omega)
   rw [eg] at X13 ⊢
   clear eg
   replace O5 := Lib.hid (O5.out.later hz)
   replace O6 := Lib.hid (O6.out.later hz)
   replace X7 := X7.bl hz
   replace HB := Lib.hid (Bt HB.out hz)
   replace HWR := Lib.hid (Bt HWR.out hz)
   replace X10 := X10.bl hz
   replace X11 := X11.bl hz
   clear hz
   refine wp_ends (fun a x y v5 v6 => (((((((((a.put (some 49) u5).put (some 50) (.agg #[.int .i64 lo, .int .i64 hi])).put (some 51) x).put (some 52) v5).put (some 53) u6).put (some 54) (.agg #[.int .i64 n1, .int .i64 n2])).put (some 55) y).put (some 56) v6).put (some 5) v5).put (some 6) v6) (fun v5 v6 W => Go.Fra.Own W (g7 + 1) 23 v5 (L ++ [(lo, hi)]) ∧ Go.Fra.Own W (g7 + 1) 23 v6 (L.map ng ++ [(n1, n2)]) ∧ (∀ r, v5.ownBlock = some r → v6.ownBlock ≠ some r) ∧ Box W g7 #[.int .i64 s1, .int .i64 s2] 23 ∧ Box W g10 #[.int .i64 lo, .int .i64 hi] 23 ∧ Box W g13 #[.int .i64 p1, .int .i64 p2] 23 ∧ Below w.heap.size w W) ?rg ?tl
   case rg =>
    have HW7 : Hid (wr.heap.size ≤ w7.heap.size) := Lib.hid HWR.out.size
    obtain ⟨c10, l10⟩ := X10.cl
    obtain ⟨c11, l11⟩ := X11.cl
    refine reg_in (by kernel_rfl) (reg_two 6 2 (by decide) (reg_walk [(.pure, 0), (.read, 1), (.pure, 4), (.read, 5), (.ext, 6), (.ext, 2), (.fin, 3), (.fin, 7), (.fin, 8), (.fin, 9)] (by kernel_rfl) (allocRuns_of (by kernel_rfl)) (fun _ _ _ _ _ h => by cases h.1) (walk_addE _ _ _ _ _ _ _ (Wk.out ?oA))) (reg_two 6 3 (by decide) (reg_walk [(.pure, 0), (.read, 1), (.pure, 4), (.read, 5), (.ext, 2), (.ext, 6), (.fin, 3), (.fin, 7), (.fin, 8), (.fin, 9)] (by kernel_rfl) (allocRuns_of (by kernel_rfl)) (fun _ _ _ _ _ h => by cases h.1) (walk_addE _ _ _ _ _ _ _ (walk_addE _ _ _ _ _ _ _ (Wk.out ?oB)))) (reg_two 5 3 (by decide) (reg_walk [(.pure, 0), (.read, 1), (.pure, 4), (.read, 5), (.ext, 2), (.fin, 3), (.fin, 6), (.fin, 7), (.fin, 8), (.fin, 9)] (by kernel_rfl) (allocRuns_of (by kernel_rfl)) (fun _ _ _ _ _ h => by cases h.1) (walk_addE _ _ _ _ _ _ _ (walk_addE _ _ _ _ _ _ _ (walk_addE _ _ _ _ _ _ _ (Wk.out ?oC))))) (reg_walk [(.pure, 0), (.read, 1), (.pure, 4), (.ext, 2), (.fin, 3), (.fin, 5), (.fin, 6), (.fin, 7), (.fin, 8), (.fin, 9)] (by kernel_rfl) (allocRuns_of (by kernel_rfl)) (fun _ _ _ _ _ h => by cases h.1) (walk_addE _ _ _ _ _ _ _ (walk_addE _ _ _ _ _ _ _ (walk_addE _ _ _ _ _ _ _ (Wk.out ?oD))))))))
    case oA =>
     (iterate 4 (first | (apply wk_skip; (rfl); (rfl); (rfl); (intro J hJ; go_simp; (with_reducible refine hJ _ ?_); clear hJ J)) | (apply wk_len; (rfl); (rfl); (rfl); (rfl); (exact (by kernel_rfl)); (intro J hJ; go_simp; (with_reducible refine hJ _ ?_); clear hJ J)) | (apply wk_pure; (rfl); (rfl); (intro J hJ; go_simp; (with_reducible refine hJ _ ?_); clear hJ J)) | (apply wk_load; (rfl); (rfl); (rfl); (rfl); (intro J hJ; go_simp; (with_reducible refine hJ _ ?_); clear hJ J; try go_simp))))
     refine wk_ext rfl rfl (fun wa6 hba J hJ => ?_); go_simp
     refine hJ _ _ belA ?_
     clear hJ J
     have hb6 := Box.new wa6 #[.int .i64 n1, .int .i64 n2] 23
     have z6 : Below w7.heap.size w7 (wa6.alloc (.cells #[.int .i64 n1, .int .i64 n2] 23)) := belA
     have m6 : w7.heap.size ≤ wa6.heap.size := hba.size
     clear hba
     refine wk_ext rfl rfl (fun wa2 hba J hJ => ?_); go_simp
     refine hJ _ _ belA ?_
     clear hJ J
     have hb2 := Box.new wa2 #[.int .i64 lo, .int .i64 hi] 23
     have z2 : Below (wa6.alloc (.cells #[.int .i64 n1, .int .i64 n2] 23)).heap.size (wa6.alloc (.cells #[.int .i64 n1, .int .i64 n2] 23)) (wa2.alloc (.cells #[.int .i64 lo, .int .i64 hi] 23)) := belA
     replace hb6 := hb6.later z2
     have z := Bt z6 z2
     have m2 : (wa6.alloc (.cells #[.int .i64 n1, .int .i64 n2] 23)).heap.size ≤ wa2.heap.size := hba.size
     clear hba
     refine wk_fin [_, _, _, _] rfl (fun wf hbf => ?_)
     simp only [List.getElem_toArray, List.getElem_cons_succ, List.getElem_cons_zero]
     have zf := Bt z hbf
     replace hb6 := hb6.later hbf
     replace hb2 := hb2.later hbf
     replace O5 := Lib.hid (O5.out.later zf)
     replace O6 := Lib.hid (O6.out.later zf)
     replace X7 := X7.bl zf
     replace HB := Lib.hid (Bt HB.out zf)
     replace HWR := Lib.hid (Bt HWR.out zf)
     replace X10 := X10.bl zf
     replace X11 := X11.bl zf
     replace X13 := X13.bl zf
     clear zf hbf c10 l10 c11 l11
     refine wpList_append rfl (.tmp 49) (.tmp 51) rfl rfl O5.out rfl (Bds.one hb2) (by have := HK.out.1; have := HM.out; simp; omega) (by have := X7.out.lt; omega) ?_
     intro v5 wg e1 e2 e3
     have HN5 := HN
     replace HN : Hid (∀ r, v5.ownBlock = some r → u6.ownBlock ≠ some r) := Lib.hid fun r h e => by
      rcases e3 with q | q
      ·rw [q] at h
       exact HN.out r h e
      ·rw [q] at h
       cases h
       exact Nat.lt_irrefl _ (O6.out.lt _ e).2
     replace O6 := Lib.hid (O6.out.kept e2 (fun r h e => HN5.out r e h))
     replace HB := Lib.hid (HB.out.grown e2 HB.out.size fun r h => by have := (O5.out.lt r h).1; have := HG7.out; omega)
     have NE : ∀ g, wr.heap.size ≤ g → u5.ownBlock ≠ some g := fun g hg e => by have := HR5.out g e; omega
     replace X7 := Lib.hid (Box.grown X7.out e2 (fun e => by have := (O5.out.lt _ e).1; omega))
     replace X10 := Lib.hid (Box.grown X10.out e2 (NE _ HGg10.out))
     replace X11 := Lib.hid (Box.grown X11.out e2 (NE _ HGg11.out))
     replace X13 := Lib.hid (Box.grown X13.out e2 (NE _ HGg13.out))
     replace hb6 := Box.grown hb6 e2 (NE _ (by have := HW7.out; have := m6; have := m2; (try simp only [World.size_alloc] at m6); (try simp only [World.size_alloc] at m2); omega))
     replace O5 := Lib.hid e1
     clear e1 e2 e3 NE
     refine wpList_append rfl (.tmp 53) (.tmp 55) rfl rfl O6.out rfl (Bds.one hb6) (by have := HK.out.1; have := HM.out; simp; omega) (by have := X7.out.lt; omega) ?_
     intro v6 wi e1 e2 e3
     have NE : ∀ g, wr.heap.size ≤ g → u6.ownBlock ≠ some g := fun g hg e => by have := HR6.out g e; omega
     have X7' := Box.grown X7.out e2 (fun e => by have := (O6.out.lt _ e).1; omega)
     have X10' := Box.grown X10.out e2 (NE _ HGg10.out)
     have X13' := Box.grown X13.out e2 (NE _ HGg13.out)
     have HB' := HB.out.grown e2 HB.out.size fun r h => by have := (O6.out.lt r h).1; have := HG7.out; omega
     have O5' := O5.out.kept e2 (fun r h e => HN.out r h e)
     have HN' : ∀ r, v5.ownBlock = some r → v6.ownBlock ≠ some r := fun r h e => by
      rcases e3 with q | q
      ·rw [q] at e
       exact HN.out r h e
      ·rw [q] at e
       cases e
       exact absurd (O5.out.lt _ h).2 (by simp)
     have H7 := Lib.hid (And.intro O5' (And.intro e1 (And.intro HN' (And.intro X7' (And.intro X10' (And.intro X13' HB'))))))
     clear NE X7' X10' X13' HB' O5' HN' e1 e2 e3
     go_wp2_with fail
     exact ⟨_, _, v5, v6, ⟨rfl, rfl, rfl, rfl, rfl, rfl⟩, H7.out⟩
    case oB =>
     (iterate 4 (first | (apply wk_skip; (rfl); (rfl); (rfl); (intro J hJ; go_simp; (with_reducible refine hJ _ ?_); clear hJ J)) | (apply wk_len; (rfl); (rfl); (rfl); (rfl); (exact (by kernel_rfl)); (intro J hJ; go_simp; (with_reducible refine hJ _ ?_); clear hJ J)) | (apply wk_pure; (rfl); (rfl); (intro J hJ; go_simp; (with_reducible refine hJ _ ?_); clear hJ J)) | (apply wk_load; (rfl); (rfl); (rfl); (rfl); (intro J hJ; go_simp; (with_reducible refine hJ _ ?_); clear hJ J; try go_simp))))
     refine wk_ext rfl rfl (fun wa2 hba J hJ => ?_); go_simp
     refine hJ _ _ belA ?_
     clear hJ J
     have hb2 := Box.new wa2 #[.int .i64 lo, .int .i64 hi] 23
     have z2 : Below w7.heap.size w7 (wa2.alloc (.cells #[.int .i64 lo, .int .i64 hi] 23)) := belA
     have m2 : w7.heap.size ≤ wa2.heap.size := hba.size
     clear hba
     refine wk_ext rfl rfl (fun wa6 hba J hJ => ?_); go_simp
     refine hJ _ _ belA ?_
     clear hJ J
     have hb6 := Box.new wa6 #[.int .i64 n1, .int .i64 n2] 23
     have z6 : Below (wa2.alloc (.cells #[.int .i64 lo, .int .i64 hi] 23)).heap.size (wa2.alloc (.cells #[.int .i64 lo, .int .i64 hi] 23)) (wa6.alloc (.cells #[.int .i64 n1, .int .i64 n2] 23)) := belA
     replace hb2 := hb2.later z6
     have z := Bt z2 z6
     have m6 : (wa2.alloc (.cells #[.int .i64 lo, .int .i64 hi] 23)).heap.size ≤ wa6.heap.size := hba.size
     clear hba
     refine wk_fin [_, _, _, _] rfl (fun wf hbf => ?_)
     simp only [List.getElem_toArray, List.getElem_cons_succ, List.getElem_cons_zero]
     have zf := Bt z hbf
     replace hb2 := hb2.later hbf
     replace hb6 := hb6.later hbf
     replace O5 := Lib.hid (O5.out.later zf)
     replace O6 := Lib.hid (O6.out.later zf)
     replace X7 := X7.bl zf
     replace HB := Lib.hid (Bt HB.out zf)
     replace HWR := Lib.hid (Bt HWR.out zf)
     replace X10 := X10.bl zf
     replace X11 := X11.bl zf
     replace X13 := X13.bl zf
     clear zf hbf c10 l10 c11 l11
     refine wpList_append rfl (.tmp 49) (.tmp 51) rfl rfl O5.out rfl (Bds.one hb2) (by have := HK.out.1; have := HM.out; simp; omega) (by have := X7.out.lt; omega) ?_
     intro v5 wg e1 e2 e3
     have HN5 := HN
     replace HN : Hid (∀ r, v5.ownBlock = some r → u6.ownBlock ≠ some r) := Lib.hid fun r h e => by
      rcases e3 with q | q
      ·rw [q] at h
       exact HN.out r h e
      ·rw [q] at h
       cases h
       exact Nat.lt_irrefl _ (O6.out.lt _ e).2
     replace O6 := Lib.hid (O6.out.kept e2 (fun r h e => HN5.out r e h))
     replace HB := Lib.hid (HB.out.grown e2 HB.out.size fun r h => by have := (O5.out.lt r h).1; have := HG7.out; omega)
     have NE : ∀ g, wr.heap.size ≤ g → u5.ownBlock ≠ some g := fun g hg e => by have := HR5.out g e; omega
     replace X7 := Lib.hid (Box.grown X7.out e2 (fun e => by have := (O5.out.lt _ e).1; omega))
     replace X10 := Lib.hid (Box.grown X10.out e2 (NE _ HGg10.out))
     replace X11 := Lib.hid (Box.grown X11.out e2 (NE _ HGg11.out))
     replace X13 := Lib.hid (Box.grown X13.out e2 (NE _ HGg13.out))
     replace hb6 := Box.grown hb6 e2 (NE _ (by have := HW7.out; have := m6; have := m2; (try simp only [World.size_alloc] at m6); (try simp only [World.size_alloc] at m2); omega))
     replace O5 := Lib.hid e1
     clear e1 e2 e3 NE
     refine wpList_append rfl (.tmp 53) (.tmp 55) rfl rfl O6.out rfl (Bds.one hb6) (by have := HK.out.1; have := HM.out; simp; omega) (by have := X7.out.lt; omega) ?_
     intro v6 wi e1 e2 e3
     have NE : ∀ g, wr.heap.size ≤ g → u6.ownBlock ≠ some g := fun g hg e => by have := HR6.out g e; omega
     have X7' := Box.grown X7.out e2 (fun e => by have := (O6.out.lt _ e).1; omega)
     have X10' := Box.grown X10.out e2 (NE _ HGg10.out)
     have X13' := Box.grown X13.out e2 (NE _ HGg13.out)
     have HB' := HB.out.grown e2 HB.out.size fun r h => by have := (O6.out.lt r h).1; have := HG7.out; omega
     have O5' := O5.out.kept e2 (fun r h e => HN.out r h e)
     have HN' : ∀ r, v5.ownBlock = some r → v6.ownBlock ≠ some r := fun r h e => by
      rcases e3 with q | q
      ·rw [q] at e
       exact HN.out r h e
      ·rw [q] at e
       cases e
       exact absurd (O5.out.lt _ h).2 (by simp)
     have H7 := Lib.hid (And.intro O5' (And.intro e1 (And.intro HN' (And.intro X7' (And.intro X10' (And.intro X13' HB'))))))
     clear NE X7' X10' X13' HB' O5' HN' e1 e2 e3
     go_wp2_with fail
     exact ⟨_, _, v5, v6, ⟨rfl, rfl, rfl, rfl, rfl, rfl⟩, H7.out⟩
    case oC =>
     (iterate 4 (first | (apply wk_skip; (rfl); (rfl); (rfl); (intro J hJ; go_simp; (with_reducible refine hJ _ ?_); clear hJ J)) | (apply wk_len; (rfl); (rfl); (rfl); (rfl); (exact (by kernel_rfl)); (intro J hJ; go_simp; (with_reducible refine hJ _ ?_); clear hJ J)) | (apply wk_pure; (rfl); (rfl); (intro J hJ; go_simp; (with_reducible refine hJ _ ?_); clear hJ J)) | (apply wk_load; (rfl); (rfl); (rfl); (rfl); (intro J hJ; go_simp; (with_reducible refine hJ _ ?_); clear hJ J; try go_simp))))
     refine wk_ext rfl rfl (fun wa2 hba J hJ => ?_); go_simp
     refine hJ _ _ belA ?_
     clear hJ J
     have hb2 := Box.new wa2 #[.int .i64 lo, .int .i64 hi] 23
     have z2 : Below w7.heap.size w7 (wa2.alloc (.cells #[.int .i64 lo, .int .i64 hi] 23)) := belA
     have m2 : w7.heap.size ≤ wa2.heap.size := hba.size
     clear hba
     refine wk_fin [_, _, _, _, _] rfl (fun wf hbf => ?_)
     simp only [List.getElem_toArray, List.getElem_cons_succ, List.getElem_cons_zero]
     have zf := Bt z2 hbf
     replace hb2 := hb2.later hbf
     replace O5 := Lib.hid (O5.out.later zf)
     replace O6 := Lib.hid (O6.out.later zf)
     replace X7 := X7.bl zf
     replace HB := Lib.hid (Bt HB.out zf)
     replace HWR := Lib.hid (Bt HWR.out zf)
     replace X10 := X10.bl zf
     replace X11 := X11.bl zf
     replace X13 := X13.bl zf
     clear zf hbf c10 l10 c11 l11
     refine wpList_append rfl (.tmp 49) (.tmp 51) rfl rfl O5.out rfl (Bds.one hb2) (by have := HK.out.1; have := HM.out; simp; omega) (by have := X7.out.lt; omega) ?_
     intro v5 wg e1 e2 e3
     have HN5 := HN
     replace HN : Hid (∀ r, v5.ownBlock = some r → u6.ownBlock ≠ some r) := Lib.hid fun r h e => by
      rcases e3 with q | q
      ·rw [q] at h
       exact HN.out r h e
      ·rw [q] at h
       cases h
       exact Nat.lt_irrefl _ (O6.out.lt _ e).2
     replace O6 := Lib.hid (O6.out.kept e2 (fun r h e => HN5.out r e h))
     replace HB := Lib.hid (HB.out.grown e2 HB.out.size fun r h => by have := (O5.out.lt r h).1; have := HG7.out; omega)
     have NE : ∀ g, wr.heap.size ≤ g → u5.ownBlock ≠ some g := fun g hg e => by have := HR5.out g e; omega
     replace X7 := Lib.hid (Box.grown X7.out e2 (fun e => by have := (O5.out.lt _ e).1; omega))
     replace X10 := Lib.hid (Box.grown X10.out e2 (NE _ HGg10.out))
     replace X11 := Lib.hid (Box.grown X11.out e2 (NE _ HGg11.out))
     replace X13 := Lib.hid (Box.grown X13.out e2 (NE _ HGg13.out))
     replace O5 := Lib.hid e1
     clear e1 e2 e3 NE
     obtain ⟨c11, l11⟩ := X11.cl
     have HLW : Hid (Below wg.heap.size wg (wg.alloc (.cells #[.int .i64 n1, .int .i64 n2] 23))) := Lib.hid belA
     go_wp2_with (at_builtin; refine wpList_append rfl (.tmp 53) (.tmp 55) rfl rfl (O6.out.later HLW.out) rfl (Bds.one (Box.new _ _ _)) ?q1 ?q2 ?_)
     case q1 => have := HK.out.1; have := HM.out; simp; omega
     case q2 => have := X7.out.lt; simp; omega
     replace O5 := Lib.hid (O5.out.later HLW.out)
     replace O6 := Lib.hid (O6.out.later HLW.out)
     replace X7 := X7.bl HLW.out
     replace HB := Lib.hid (Bt HB.out HLW.out)
     replace X10 := X10.bl HLW.out
     replace X11 := X11.bl HLW.out
     replace X13 := X13.bl HLW.out
     clear c11 l11 HLW
     intro v6 wi e1 e2 e3
     have NE : ∀ g, wr.heap.size ≤ g → u6.ownBlock ≠ some g := fun g hg e => by have := HR6.out g e; omega
     have X7' := Box.grown X7.out e2 (fun e => by have := (O6.out.lt _ e).1; omega)
     have X10' := Box.grown X10.out e2 (NE _ HGg10.out)
     have X13' := Box.grown X13.out e2 (NE _ HGg13.out)
     have HB' := HB.out.grown e2 HB.out.size fun r h => by have := (O6.out.lt r h).1; have := HG7.out; omega
     have O5' := O5.out.kept e2 (fun r h e => HN.out r h e)
     have HN' : ∀ r, v5.ownBlock = some r → v6.ownBlock ≠ some r := fun r h e => by
      rcases e3 with q | q
      ·rw [q] at e
       exact HN.out r h e
      ·rw [q] at e
       cases e
       exact absurd (O5.out.lt _ h).2 (by simp)
     have H7 := Lib.hid (And.intro O5' (And.intro e1 (And.intro HN' (And.intro X7' (And.intro X10' (And.intro X13' HB'))))))
     clear NE X7' X10' X13' HB' O5' HN' e1 e2 e3
     go_wp2_with fail
     exact ⟨_, _, v5, v6, ⟨rfl, rfl, rfl, rfl, rfl, rfl⟩, H7.out⟩
    case oD =>
     (iterate 3 (first | (apply wk_skip; (rfl); (rfl); (rfl); (intro J hJ; go_simp; (with_reducible refine hJ _ ?_); clear hJ J)) | (apply wk_len; (rfl); (rfl); (rfl); (rfl); (exact (by kernel_rfl)); (intro J hJ; go_simp; (with_reducible refine hJ _ ?_); clear hJ J)) | (apply wk_pure; (rfl); (rfl); (intro J hJ; go_simp; (with_reducible refine hJ _ ?_); clear hJ J)) | (apply wk_load; (rfl); (rfl); (rfl); (rfl); (intro J hJ; go_simp; (with_reducible refine hJ _ ?_); clear hJ J; try go_simp))))
     refine wk_ext rfl rfl (fun wa2 hba J hJ => ?_); go_simp
     refine hJ _ _ belA ?_
     clear hJ J
     have hb2 := Box.new wa2 #[.int .i64 lo, .int .i64 hi] 23
     have z2 : Below w7.heap.size w7 (wa2.alloc (.cells #[.int .i64 lo, .int .i64 hi] 23)) := belA
     have m2 : w7.heap.size ≤ wa2.heap.size := hba.size
     clear hba
     refine wk_fin [_, _, _, _, _, _] rfl (fun wf hbf => ?_)
     simp only [List.getElem_toArray, List.getElem_cons_succ, List.getElem_cons_zero]
     have zf := Bt z2 hbf
     replace hb2 := hb2.later hbf
     replace O5 := Lib.hid (O5.out.later zf)
     replace O6 := Lib.hid (O6.out.later zf)
     replace X7 := X7.bl zf
     replace HB := Lib.hid (Bt HB.out zf)
     replace HWR := Lib.hid (Bt HWR.out zf)
     replace X10 := X10.bl zf
     replace X11 := X11.bl zf
     replace X13 := X13.bl zf
     clear zf hbf c10 l10 c11 l11
     refine wpList_append rfl (.tmp 49) (.tmp 51) rfl rfl O5.out rfl (Bds.one hb2) (by have := HK.out.1; have := HM.out; simp; omega) (by have := X7.out.lt; omega) ?_
     intro v5 wg e1 e2 e3
     have HN5 := HN
     replace HN : Hid (∀ r, v5.ownBlock = some r → u6.ownBlock ≠ some r) := Lib.hid fun r h e => by
      rcases e3 with q | q
      ·rw [q] at h
       exact HN.out r h e
      ·rw [q] at h
       cases h
       exact Nat.lt_irrefl _ (O6.out.lt _ e).2
     replace O6 := Lib.hid (O6.out.kept e2 (fun r h e => HN5.out r e h))
     replace HB := Lib.hid (HB.out.grown e2 HB.out.size fun r h => by have := (O5.out.lt r h).1; have := HG7.out; omega)
     have NE : ∀ g, wr.heap.size ≤ g → u5.ownBlock ≠ some g := fun g hg e => by have := HR5.out g e; omega
     replace X7 := Lib.hid (Box.grown X7.out e2 (fun e => by have := (O5.out.lt _ e).1; omega))
     replace X10 := Lib.hid (Box.grown X10.out e2 (NE _ HGg10.out))
     replace X11 := Lib.hid (Box.grown X11.out e2 (NE _ HGg11.out))
     replace X13 := Lib.hid (Box.grown X13.out e2 (NE _ HGg13.out))
     replace O5 := Lib.hid e1
     clear e1 e2 e3 NE
     obtain ⟨c11, l11⟩ := X11.cl
     have HLW : Hid (Below wg.heap.size wg (wg.alloc (.cells #[.int .i64 n1, .int .i64 n2] 23))) := Lib.hid belA
     go_wp2_with (at_builtin; refine wpList_append rfl (.tmp 53) (.tmp 55) rfl rfl (O6.out.later HLW.out) rfl (Bds.one (Box.new _ _ _)) ?q1 ?q2 ?_)
     case q1 => have := HK.out.1; have := HM.out; simp; omega
     case q2 => have := X7.out.lt; simp; omega
     replace O5 := Lib.hid (O5.out.later HLW.out)
     replace O6 := Lib.hid (O6.out.later HLW.out)
     replace X7 := X7.bl HLW.out
     replace HB := Lib.hid (Bt HB.out HLW.out)
     replace X10 := X10.bl HLW.out
     replace X11 := X11.bl HLW.out
     replace X13 := X13.bl HLW.out
     clear c11 l11 HLW
     intro v6 wi e1 e2 e3
     have NE : ∀ g, wr.heap.size ≤ g → u6.ownBlock ≠ some g := fun g hg e => by have := HR6.out g e; omega
     have X7' := Box.grown X7.out e2 (fun e => by have := (O6.out.lt _ e).1; omega)
     have X10' := Box.grown X10.out e2 (NE _ HGg10.out)
     have X13' := Box.grown X13.out e2 (NE _ HGg13.out)
     have HB' := HB.out.grown e2 HB.out.size fun r h => by have := (O6.out.lt r h).1; have := HG7.out; omega
     have O5' := O5.out.kept e2 (fun r h e => HN.out r h e)
     have HN' : ∀ r, v5.ownBlock = some r → v6.ownBlock ≠ some r := fun r h e => by
      rcases e3 with q | q
      ·rw [q] at e
       exact HN.out r h e
      ·rw [q] at e
       cases e
       exact absurd (O5.out.lt _ h).2 (by simp)
     have H7 := Lib.hid (And.intro O5' (And.intro e1 (And.intro HN' (And.intro X7' (And.intro X10' (And.intro X13' HB'))))))
     clear NE X7' X10' X13' HB' O5' HN' e1 e2 e3
     go_wp2_with fail
     exact ⟨_, _, v5, v6, ⟨rfl, rfl, rfl, rfl, rfl, rfl⟩, H7.out⟩
   case tl =>
    have HNE : Hid (g10 ≠ g7 ∧ g13 ≠ g7) := Lib.hid (by have := HGg10.out; have := HGg13.out; have := HG7r.out; omega)
    clear O5 O6 X7 X10 X11 X13 HB HWR HN HR5 HR6 HGg10 HGg11 HGg13 HG7r
    intro x y v5 v6 wt ⟨h1, h2, h3, h4, h5, h6, h7⟩
    have O5 := Lib.hid h1
    have O6 : Hid (Go.Fra.Own wt (g7 + 1) 23 v6 ((L ++ [(lo, hi)]).map ng)) := Lib.hid (by rw [List.map_append, List.map_singleton, F1.out]; exact h2)
    have HN := Lib.hid h3
    have X7 := Lib.hid h4
    have X10 := Lib.hid h5
    have X13 := Lib.hid h6
    have HB := Lib.hid h7
    have HK2 : Hid ((L ++ [(lo, hi)]).length = k + 1 ∧ (∀ b ∈ L ++ [(lo, hi)], Sm b) ∧ sm (L ++ [(lo, hi)]) = (y1, y2)) := Lib.hid ⟨by have := HK.out.1; simp; omega, F3.out, F2.out⟩
    clear h1 h2 h3 h4 h5 h6 h7 HK F1 F2 F3
    generalize L ++ [(lo, hi)] = L2 at *
    obtain ⟨c7, l7⟩ := X7.cl
    obtain ⟨c13, l13⟩ := X13.cl
    go_simp
    go_wp2_with fail
    refine (F6.out _).mono ?_
    rintro e wu ⟨rfl, hb⟩
    replace O5 := Lib.hid (O5.out.later hb)
    replace O6 := Lib.hid (O6.out.later hb)
    replace X7 := X7.bl hb
    replace HB := Lib.hid (Bt HB.out hb)
    replace X10 := X10.bl hb
    replace X13 := X13.bl hb
    clear hb F6 c7 l7 c13 l13
    obtain ⟨c7, l7, f7⟩ := X7.clf
    go_wp2_with fail
    obtain ⟨ws, ES⟩ : ∃ y, (wu.setCell ⟨g7, 0, none⟩ (.int .i64 y1)).setCell ⟨g7, 1, none⟩ (.int .i64 y2) = y := ⟨_, rfl⟩
    have HZ7 : Hid (Box ws g7 #[.int .i64 y1, .int .i64 y2] 23) := Lib.hid (by rw [← ES]; exact (X7.out.set 0 _).set 1 _)
    have HGR : wu.grownBy ws (some g7) := by rw [← ES]; exact (grown_setCell wu g7 0 _).trans (grown_setCell _ g7 1 _)
    have HB2 : Hid (Below w.heap.size w ws) := Lib.hid (HB.out.grown HGR HB.out.size fun r h => by cases h; exact HG7.out)
    replace X10 : Hid (Box ws g10 #[.int .i64 lo, .int .i64 hi] 23) := Lib.hid (Box.grown X10.out HGR (fun e => by cases e; exact HNE.out.1 rfl))
    replace X13 : Hid (Box ws g13 #[.int .i64 p1, .int .i64 p2] 23) := Lib.hid (Box.grown X13.out HGR (fun e => by cases e; exact HNE.out.2 rfl))
    replace O5 : Hid (Go.Fra.Own ws (g7 + 1) 23 v5 L2) := Lib.hid (O5.out.kept HGR (fun r h e => by cases e; have := (O5.out.lt _ h).1; omega))
    replace O6 : Hid (Go.Fra.Own ws (g7 + 1) 23 v6 (L2.map ng)) := Lib.hid (O6.out.kept HGR (fun r h e => by cases e; have := (O6.out.lt _ h).1; omega))
    rw [ES]
    clear HGR ES X7 HB c7 l7 f7
    obtain ⟨c10, l10⟩ := X10.cl
    obtain ⟨c13, l13⟩ := X13.cl
    clear X10 X13
    refine reg_in (by kernel_rfl) (reg_two 4 6 (by decide) (reg_walk [(.pure, 0), (.read, 1), (.pure, 2), (.read, 3), (.read, 5), (.ext, 4), (.ext, 6), (.ext, 7), (.pure, 8), (.pure, 9), (.ext, 10), (.pure, 11)] (by kernel_rfl) (allocRuns_of (by kernel_rfl)) (fun _ _ _ _ hd h => And.intro (hd.trans (And.left h)) (And.right h)) (walk_addE _ _ _ _ _ _ _ (Wk.out ?t1))) (reg_walk [(.pure, 0), (.read, 1), (.pure, 2), (.read, 3), (.read, 5), (.ext, 6), (.ext, 4), (.ext, 7), (.pure, 8), (.pure, 9), (.ext, 10), (.pure, 11)] (by kernel_rfl) (allocRuns_of (by kernel_rfl)) (fun _ _ _ _ hd h => And.intro (hd.trans (And.left h)) (And.right h)) (walk_addE _ _ _ _ _ _ _ (Wk.out ?t2))))
    case t1 =>
     (iterate 5 (first | (apply wk_skip; (rfl); (rfl); (rfl); (intro J hJ; go_simp; (with_reducible refine hJ _ ?_); clear hJ J)) | (apply wk_len; (rfl); (rfl); (rfl); (rfl); (exact (by kernel_rfl)); (intro J hJ; go_simp; (with_reducible refine hJ _ ?_); clear hJ J)) | (apply wk_pure; (rfl); (rfl); (intro J hJ; go_simp; (with_reducible refine hJ _ ?_); clear hJ J)) | (apply wk_load; (rfl); (rfl); (rfl); (rfl); (intro J hJ; go_simp; (with_reducible refine hJ _ ?_); clear hJ J; try go_simp))))
     refine wk_ext rfl rfl (fun Wa hba J hJ => ?_); go_simp
     refine (is_ok p1 p2 _).mono ?_
     rintro e Ua ⟨⟨vc, rfl, pa, pb, rfl, ha, hc⟩, hb⟩
     have zs : Below ws.heap.size ws Ua := belA
     have HA := Lib.hid ha
     have HC := Lib.hid hc
     refine hJ _ _ hb ?_
     clear hJ J hb hba ha hc
     refine wk_ext rfl rfl (fun Wb hbb J hJ => ?_); go_simp
     refine hJ _ _ belA ?_
     clear hJ J
     have hx := Box.new Wb #[.int .i64 lo, .int .i64 hi] 23
     have HX := Lib.hid hx
     have zb : Below Ua.heap.size Ua (Wb.alloc (.cells #[.int .i64 lo, .int .i64 hi] 23)) := belA
     clear hx hbb
     replace HA := HA.bl zb
     replace HC := HC.bl zb
     have HZ := Lib.hid (Bt zs zb)
     clear zs zb
     refine wk_ext rfl rfl (fun Wc hbc J hJ => ?_); go_simp
     replace HA := HA.bl hbc
     replace HC := HC.bl hbc
     have HZc := Lib.hid (Bt HZ.out hbc)
     have HBc := Lib.hid (Bt HB2.out HZc.out)
     refine (F7.out _ _ (Bds.one (HX.out.later hbc)) (HP.out.later HBc.out) (HE.out.later HBc.out)).mono ?_
     rintro e Wd ⟨rfl, hb⟩
     replace HA := HA.bl hb
     replace HC := HC.bl hb
     replace HZ := Lib.hid (Bt HZc.out hb)
     refine hJ _ _ hb ?_
     clear hJ J hb hbc HZc HBc HX
     (iterate 2 (first | (apply wk_skip; (rfl); (rfl); (rfl); (intro J hJ; go_simp; (with_reducible refine hJ _ ?_); clear hJ J)) | (apply wk_len; (rfl); (rfl); (rfl); (rfl); (exact (by kernel_rfl)); (intro J hJ; go_simp; (with_reducible refine hJ _ ?_); clear hJ J)) | (apply wk_pure; (rfl); (rfl); (intro J hJ; go_simp; (with_reducible refine hJ _ ?_); clear hJ J)) | (apply wk_load; (rfl); (rfl); (rfl); (rfl); (intro J hJ; go_simp; (with_reducible refine hJ _ ?_); clear hJ J; try go_simp))))
     refine wk_ext rfl rfl (fun We hbe J hJ => ?_); go_simp
     refine (is1_ok p1 p2 pa pb _ (HA.out.later hbe) (HC.out.later hbe)).mono ?_
     rintro e Wf ⟨rfl, hb⟩
     replace HZ := Lib.hid (Bt (Bt HZ.out hbe) hb)
     refine hJ _ _ hb ?_
     clear hJ J hb hbe HA HC
     (iterate 1 (first | (apply wk_skip; (rfl); (rfl); (rfl); (intro J hJ; go_simp; (with_reducible refine hJ _ ?_); clear hJ J)) | (apply wk_len; (rfl); (rfl); (rfl); (rfl); (exact (by kernel_rfl)); (intro J hJ; go_simp; (with_reducible refine hJ _ ?_); clear hJ J)) | (apply wk_pure; (rfl); (rfl); (intro J hJ; go_simp; (with_reducible refine hJ _ ?_); clear hJ J)) | (apply wk_load; (rfl); (rfl); (rfl); (rfl); (intro J hJ; go_simp; (with_reducible refine hJ _ ?_); clear hJ J; try go_simp))))
     refine wk_nil fun Wg hbg => ?_
     replace HZ := Lib.hid (Bt HZ.out hbg)
     clear hbg
     go_wp2_with fail
     replace O5 := Lib.hid (O5.out.later HZ.out)
     replace O6 := Lib.hid (O6.out.later HZ.out)
     replace HZ7 := HZ7.bl HZ.out
     replace HB2 := Lib.hid (Bt HB2.out HZ.out)
     go_roundw
     case rel => exact ⟨k + 1, L2, y1, y2, by omega, by rw [HW1.out], HK2, O5, O6, HN, HZ7, HB2⟩
     case measure => rw [HW1.out]; simp [intOf]; omega
    case t2 =>
     (iterate 5 (first | (apply wk_skip; (rfl); (rfl); (rfl); (intro J hJ; go_simp; (with_reducible refine hJ _ ?_); clear hJ J)) | (apply wk_len; (rfl); (rfl); (rfl); (rfl); (exact (by kernel_rfl)); (intro J hJ; go_simp; (with_reducible refine hJ _ ?_); clear hJ J)) | (apply wk_pure; (rfl); (rfl); (intro J hJ; go_simp; (with_reducible refine hJ _ ?_); clear hJ J)) | (apply wk_load; (rfl); (rfl); (rfl); (rfl); (intro J hJ; go_simp; (with_reducible refine hJ _ ?_); clear hJ J; try go_simp))))
     refine wk_ext rfl rfl (fun Wb hbb J hJ => ?_); go_simp
     refine hJ _ _ belA ?_
     clear hJ J
     have hx := Box.new Wb #[.int .i64 lo, .int .i64 hi] 23
     have HX := Lib.hid hx
     have zb : Below ws.heap.size ws (Wb.alloc (.cells #[.int .i64 lo, .int .i64 hi] 23)) := belA
     clear hx hbb
     refine wk_ext rfl rfl (fun Wa hba J hJ => ?_); go_simp
     refine (is_ok p1 p2 _).mono ?_
     rintro e Ua ⟨⟨vc, rfl, pa, pb, rfl, ha, hc⟩, hb⟩
     have zs : Below (Wb.alloc (.cells #[.int .i64 lo, .int .i64 hi] 23)).heap.size (Wb.alloc (.cells #[.int .i64 lo, .int .i64 hi] 23)) Ua := Bt hba hb
     have HA := Lib.hid ha
     have HC := Lib.hid hc
     refine hJ _ _ hb ?_
     clear hJ J hb hba ha hc
     replace HX := HX.bl zs
     have HZ := Lib.hid (Bt zb zs)
     clear zs zb
     refine wk_ext rfl rfl (fun Wc hbc J hJ => ?_); go_simp
     replace HA := HA.bl hbc
     replace HC := HC.bl hbc
     have HZc := Lib.hid (Bt HZ.out hbc)
     have HBc := Lib.hid (Bt HB2.out HZc.out)
     refine (F7.out _ _ (Bds.one (HX.out.later hbc)) (HP.out.later HBc.out) (HE.out.later HBc.out)).mono ?_
     rintro e Wd ⟨rfl, hb⟩
     replace HA := HA.bl hb
     replace HC := HC.bl hb
     replace HZ := Lib.hid (Bt HZc.out hb)
     refine hJ _ _ hb ?_
     clear hJ J hb hbc HZc HBc HX
     (iterate 2 (first | (apply wk_skip; (rfl); (rfl); (rfl); (intro J hJ; go_simp; (with_reducible refine hJ _ ?_); clear hJ J)) | (apply wk_len; (rfl); (rfl); (rfl); (rfl); (exact (by kernel_rfl)); (intro J hJ; go_simp; (with_reducible refine hJ _ ?_); clear hJ J)) | (apply wk_pure; (rfl); (rfl); (intro J hJ; go_simp; (with_reducible refine hJ _ ?_); clear hJ J)) | (apply wk_load; (rfl); (rfl); (rfl); (rfl); (intro J hJ; go_simp; (with_reducible refine hJ _ ?_); clear hJ J; try go_simp))))
     refine wk_ext rfl rfl (fun We hbe J hJ => ?_); go_simp
     refine (is1_ok p1 p2 pa pb _ (HA.out.later hbe) (HC.out.later hbe)).mono ?_
     rintro e Wf ⟨rfl, hb⟩
     replace HZ := Lib.hid (Bt (Bt HZ.out hbe) hb)
     refine hJ _ _ hb ?_
     clear hJ J hb hbe HA HC
     (iterate 1 (first | (apply wk_skip; (rfl); (rfl); (rfl); (intro J hJ; go_simp; (with_reducible refine hJ _ ?_); clear hJ J)) | (apply wk_len; (rfl); (rfl); (rfl); (rfl); (exact (by kernel_rfl)); (intro J hJ; go_simp; (with_reducible refine hJ _ ?_); clear hJ J)) | (apply wk_pure; (rfl); (rfl); (intro J hJ; go_simp; (with_reducible refine hJ _ ?_); clear hJ J)) | (apply wk_load; (rfl); (rfl); (rfl); (rfl); (intro J hJ; go_simp; (with_reducible refine hJ _ ?_); clear hJ J; try go_simp))))
     refine wk_nil fun Wg hbg => ?_
     replace HZ := Lib.hid (Bt HZ.out hbg)
     clear hbg
     go_wp2_with fail
     replace O5 := Lib.hid (O5.out.later HZ.out)
     replace O6 := Lib.hid (O6.out.later HZ.out)
     replace HZ7 := HZ7.bl HZ.out
     replace HB2 := Lib.hid (Bt HB2.out HZ.out)
     go_roundw
     case rel => exact ⟨k + 1, L2, y1, y2, by omega, by rw [HW1.out], HK2, O5, O6, HN, HZ7, HB2⟩
     case measure => rw [HW1.out]; simp [intOf]; omega
  ·obtain rfl : k = m2 := by omega
   clear HD HL hsl2 hmin2
   obtain ⟨q5, r5, e5⟩ := O5.out.slice
   obtain ⟨q6, r6, e6⟩ := O6.out.slice
   rw [HK.out.1] at e5
   rw [List.length_map, HK.out.1] at e6
   subst e5 e6
   rcases Nat.eq_zero_or_pos k with h0 | h0
   ·subst h0
    have HV : Hid (Bds wr 23 (.slice q5 0 r5) []) := Lib.hid (by
     have := O5.out.bds
     rw [List.length_eq_zero_iff.1 HK.out.1] at this
     exact this)
    go_wp2_with fail
    refine (fails_ok 2 _).mono ?_
    rintro e wa ⟨⟨vc, rfl, pa, rfl, ha⟩, hb⟩
    have HA := Lib.hid ha
    replace HB := Lib.hid (Bt HB.out hb)
    have HN0 := Lib.hid (power.Norm_ok _ 23 [] wa (HV.out.later hb) (HP.out.later HB.out) (HE.out.later HB.out))
    rw [show nrmE [] = ((0, 0), 2) by unfold nrmE; rfl] at HN0
    unfold bndV at HN0
    clear hb ha O5 O6 HK X7 HN
    go_wp2_with fail
    refine (HN0.out).mono ?_
    rintro e wb ⟨rfl, hb⟩
    replace HA := HA.bl hb
    replace HB := Lib.hid (Bt HB.out hb)
    clear hb HN0
    go_wp2_with fail
    refine (fails1_ok 2 pa _ HA.out).mono ?_
    rintro e wc ⟨rfl, hb⟩
    replace HB := Lib.hid (Bt HB.out hb)
    go_wp2_with fail
    go_ret
    exact ⟨rfl, HB.out⟩
   ·have q1 : ¬ ((k : Int) = 0) := by omega
    obtain ⟨j, hj, hjk⟩ : ∃ j : Nat, (wrap64 turn).tmod (k : Int) = (j : Int) ∧ j < k := by
     have ht := HT.out
     have e : wrap64 turn = turn := by unfold wrap64; omega
     refine ⟨((wrap64 turn).tmod (k : Int)).toNat, ?_, ?_⟩
     ·rw [e, Int.tmod_eq_emod_of_nonneg ht.1]
      have := Int.emod_nonneg turn (b := (k : Int)) (by omega)
      omega
     ·rw [e, Int.tmod_eq_emod_of_nonneg ht.1]
      have := Int.emod_nonneg turn (b := (k : Int)) (by omega)
      have := Int.emod_lt_of_pos turn (b := (k : Int)) (by omega)
      omega
    obtain ⟨z1, z2, HF⟩ := end_facts HK.out.2.1 (by have := HK.out.1; omega) (by have := HK.out.1; have := HM.out; omega) HK.out.2.2 j
    obtain ⟨k1, k2, k3, k4, k5⟩ := HF
    have N1 := Lib.hid (power.Norm_ok _ 23 L wr O5.out.bds (HP.out.later HB.out) (HE.out.later HB.out))
    rw [k1] at N1
    unfold bndV at N1
    have N2 := Lib.hid k2
    have K5 := Lib.hid k5
    have d1 : decide (s2 < z2) = false := decide_eq_false (by omega)
    have d2 : decide (s1 < z1) = false := decide_eq_false (by omega)
    have D1 := Lib.hid d1
    have D2 := Lib.hid d2
    have V5 : Hid (Go.Fra.Own wr (g7 + 1) 23 (.slice q5 k r5) L) := O5
    have V6 : Hid (Bds wr 23 (.slice q6 k r6) (L.map ng)) := Lib.hid O6.out.bds
    obtain ⟨g, rfl, hr6⟩ : ∃ g, q6 = some ⟨g, 0, none⟩ ∧ k ≤ r6 := by
     rcases O6.out.cases with ⟨h, h'⟩ | ⟨g, cap, cur, h, h1, h2, h3, -⟩
     ·have := congrArg List.length h'
      rw [List.length_map, HK.out.1] at this
      simp at this
      omega
     ·rw [List.length_map, HK.out.1] at h h3
      cases h
      exact ⟨g, rfl, h3⟩
    have A1 := Lib.hid (bds_drop V6.out (by omega : j ≤ k))
    have A2 := Lib.hid (bds_take V6.out (by omega : j ≤ k))
    have hsA := sliceFrom 55 23 Tryz.underlying55 (fun W => by kernel_rfl) g k r6 j (by omega) (by omega)
    have hsB := sliceTo 55 23 Tryz.underlying55 (fun W => by kernel_rfl) (some ⟨g, 0, none⟩) k r6 j (by omega)
    have HC := Lib.hid (concat_two (l := L.map ng) (j := j) (by rw [List.length_map, HK.out.1]; omega) (by rw [List.length_map, HK.out.1]; have := HM.out; omega))
    have HLK := Lib.hid HK.out.1
    have hjI := Lib.hid hj
    clear k1 k2 k3 k4 k5 d1 d2 O5 O6 HN HK V6 hj
    go_wp2_with fail
    rw [hjI.out]
    refine N1.out.mono ?_
    rintro e wa ⟨rfl, hb⟩
    replace HB := Lib.hid (Bt HB.out hb)
    replace X7 := X7.bl hb
    replace V5 := Lib.hid (V5.out.later hb)
    replace A1 := Lib.hid (A1.out.later hb)
    replace A2 := Lib.hid (A2.out.later hb)
    clear hb N1
    go_wp2_with fail
    obtain ⟨wb, EW, hz, X16⟩ := al1 wa #[.int .i64 z1, .int .i64 z2] 23
    rw [EW]
    clear EW
    replace HB := Lib.hid (Bt HB.out hz)
    replace X7 := X7.bl hz
    replace V5 := Lib.hid (V5.out.later hz)
    replace A1 := Lib.hid (A1.out.later hz)
    replace A2 := Lib.hid (A2.out.later hz)
    clear hz
    obtain ⟨g16, eg⟩ : ∃ g, wa.heap.size = g := ⟨_, rfl⟩
    rw [eg] at X16 ⊢
    clear eg
    refine wp_region_walk [(.pure, 0), (.pure, 1), (.pure, 2), (.pure, 3), (.pure, 4), (.pure, 5), (.ext, 6), (.ext, 7), (.ext, 8), (.pure, 9), (.pure, 10), (.pure, 11), (.alloc #[.int .i64 0, .int .i64 0] 23, 12), (.fin, 13), (.fin, 14)] (by kernel_rfl) (by kernel_rfl) (allocRuns_of (by kernel_rfl)) (fun _ _ _ _ hd h => And.intro (hd.trans (And.left h)) (And.right h)) ?_
    refine Wk.out ?_
    (iterate 6 (first | (apply wk_skip; (rfl); (rfl); (rfl); (intro J hJ; go_simp; (with_reducible refine hJ _ ?_); clear hJ J)) | (apply wk_len; (rfl); (rfl); (rfl); (rfl); (exact (by kernel_rfl)); (intro J hJ; go_simp; (with_reducible refine hJ _ ?_); clear hJ J)) | (apply wk_pure; (rfl); (rfl); (intro J hJ; go_simp; (with_reducible refine hJ _ ?_); clear hJ J)) | (apply wk_load; (rfl); (rfl); (rfl); (rfl); (intro J hJ; go_simp; (with_reducible refine hJ _ ?_); clear hJ J; try go_simp))))
    refine wk_ext rfl rfl (fun wc hbc J hJ => ?_); go_simp
    refine hJ _ _ belA ?_
    clear hJ J
    have hx := Box.new wc #[.slice (some ⟨g, j * 2, none⟩) (k - j) (r6 - j), .slice (some ⟨g, 0, none⟩) j r6] 55
    have z1' : Below wb.heap.size wb (wc.alloc (.cells #[.slice (some ⟨g, j * 2, none⟩) (k - j) (r6 - j), .slice (some ⟨g, 0, none⟩) j r6] 55)) := belA
    refine wk_ext rfl rfl (fun wd hbd J hJ => ?_); go_simp
    have z2' := Bt z1' hbd
    refine (HC.out _ _ (bdss_two (hx.later hbd) (A1.out.later z2') (A2.out.later z2'))).mono ?_
    rintro e we ⟨vv, rfl, hvv, hb⟩
    have Z := Lib.hid (Bt z2' hb)
    have HVV := Lib.hid hvv
    refine hJ _ _ hb ?_
    clear hJ J hb hvv hx z1' z2' hbc hbd HC A1 A2 hsA hsB
    refine wk_ext rfl rfl (fun wf hbf J hJ => ?_); go_simp
    have Z2 := Lib.hid (Bt Z.out hbf)
    have HNN := power.Norm_ok _ 23 _ wf (HVV.out.later hbf) (HP.out.later (Bt HB.out Z2.out)) (HE.out.later (Bt HB.out Z2.out))
    rw [N2.out] at HNN
    unfold bndV at HNN
    refine HNN.mono ?_
    rintro e wg ⟨rfl, hb⟩
    have Z3 := Lib.hid (Bt Z2.out hb)
    refine hJ _ _ hb ?_
    clear hJ J hb hbf HNN Z Z2 HVV N2
    (iterate 3 (first | (apply wk_skip; (rfl); (rfl); (rfl); (intro J hJ; go_simp; (with_reducible refine hJ _ ?_); clear hJ J)) | (apply wk_len; (rfl); (rfl); (rfl); (rfl); (exact (by kernel_rfl)); (intro J hJ; go_simp; (with_reducible refine hJ _ ?_); clear hJ J)) | (apply wk_pure; (rfl); (rfl); (intro J hJ; go_simp; (with_reducible refine hJ _ ?_); clear hJ J)) | (apply wk_load; (rfl); (rfl); (rfl); (rfl); (intro J hJ; go_simp; (with_reducible refine hJ _ ?_); clear hJ J; try go_simp))))
    refine wk_alloc rfl (fun q wh hbh hq1 hq2 hq3 hx18 => ?_); go_simp
    replace hx18 : Box wh q #[.int .i64 0, .int .i64 0] 23 := hx18
    refine wk_fin [_, _] rfl (fun wi hbi => ?_)
    simp only [List.getElem_toArray, List.getElem_cons_succ, List.getElem_cons_zero]
    have Z4 := Lib.hid (Bt (Bt Z3.out hbh) hbi)
    have X18 := Lib.hid (hx18.later hbi)
    have hq7 := X7.out.lt
    have hq16 := X16.out.lt
    have HQ : Hid (g7 ≠ q ∧ g16 ≠ q ∧ w.heap.size ≤ q) := Lib.hid (by have := HB.out.size; omega)
    have HV5 : Hid (∀ r, (Value.slice q5 k r5).ownBlock = some r → r ≠ q) := Lib.hid fun r h => by have := (V5.out.lt r h).2; omega
    replace HB := Lib.hid (Bt HB.out Z4.out)
    replace X7 := X7.bl Z4.out
    replace X16 := X16.bl Z4.out
    replace V5 := Lib.hid (V5.out.later Z4.out)
    clear hq7 hq16 hbh hbi hx18 hq1 hq2 hq3 Z3 Z4
    obtain ⟨c18, l18, f18⟩ := X18.clf
    go_upto_region 21 with fail
    obtain ⟨ws, ES⟩ : ∃ y, (wi.setCell ⟨q, 0, none⟩ (.int .i64 z1)).setCell ⟨q, 1, none⟩ (.int .i64 z2) = y := ⟨_, rfl⟩
    have HZ : Hid (Box ws q #[.int .i64 z1, .int .i64 z2] 23) := Lib.hid (by rw [← ES]; exact (X18.out.set 0 _).set 1 _)
    have HGR : wi.grownBy ws (some q) := by rw [← ES]; exact (grown_setCell wi q 0 _).trans (grown_setCell _ q 1 _)
    replace HB : Hid (Below w.heap.size w ws) := Lib.hid (HB.out.grown HGR HB.out.size fun r h => by cases h; exact HQ.out.2.2)
    replace X7 : Hid (Box ws g7 #[.int .i64 s1, .int .i64 s2] 23) := Lib.hid (Box.grown X7.out HGR (fun e => by cases e; exact HQ.out.1 rfl))
    replace X16 : Hid (Box ws g16 #[.int .i64 z1, .int .i64 z2] 23) := Lib.hid (Box.grown X16.out HGR (fun e => by cases e; exact HQ.out.2.1 rfl))
    replace V5 : Hid (Go.Fra.Own ws (g7 + 1) 23 (.slice q5 k r5) L) := Lib.hid (V5.out.kept HGR (fun r h e => by cases e; exact HV5.out _ h rfl))
    rw [ES]
    clear ES HGR X18 c18 l18 f18 HQ HV5 HP HE
    obtain ⟨c18, l18⟩ := HZ.cl
    obtain ⟨c7, l7⟩ := X7.cl
    obtain ⟨c16, l16⟩ := X16.cl
    have d1 := D1.out
    have d2 := D2.out
    have d3 : ¬ s2 < z2 := by simpa using d1
    have d4 : ¬ s1 < z1 := by simpa using d2
    go_wp2_with fail
    have V := Lib.hid V5.out.bds
    have HB2 := HB
    clear V5 X7 HZ HB d1 d2 d3 d4 c7 l7 c16 l16 c18 l18 D1 D2
    go_loopw [134] (fun iv wq => ∃ i : Nat, i ≤ k ∧ iv = .int .i64 (i : Int) ∧ Hid (Box wq g16 #[.int .i64 z1, .int .i64 z2] 23) ∧ Hid (Bds wq 23 (.slice q5 k r5) L) ∧ Hid (Below w.heap.size w wq)) (fun iv _ => k - (intOf iv).toNat)
    case atStart => exact ⟨0, by omega, rfl, X16, V, HB2⟩
    case round =>
     clear X16 V HB2
     obtain ⟨i, hi, rfl, X16, V, HB⟩ := hrel
     rcases Nat.lt_or_ge i k with hlt | hge
     ·obtain ⟨b, off, x, y, rfl, hb0, hx1, hx2, p1, p2, hab, hp1, hp2⟩ := abs_at V.out HLK.out K5.out i hlt
      have hik : (i : Int) < (k : Int) := by omega
      have HW1 : Hid (wrap64 ((i : Int) + 1) = ((i + 1 : Nat) : Int)) := Lib.hid (by have := HM.out; unfold wrap64; omega)
      have HAb := Lib.hid hab
      have HPP := Lib.hid (And.intro hp1 hp2)
      clear hab hp1 hp2
      go_wp2_with fail
      obtain ⟨wb, EW, hz, -⟩ := al1 wr #[.int .i64 x, .int .i64 y] 23
      rw [EW]
      clear EW hx1 hx2 hik
      replace X16 := X16.bl hz
      replace V := Lib.hid (V.out.later hz)
      replace HB := Lib.hid (Bt HB.out hz)
      clear hz
      refine (HAb.out _).mono ?_
      rintro e wc ⟨rfl, hb⟩
      replace X16 := X16.bl hb
      replace V := Lib.hid (V.out.later hb)
      replace HB := Lib.hid (Bt HB.out hb)
      clear hb HAb
      obtain ⟨c16, l16⟩ := X16.cl
      have d1 : decide (z1 < p1) = false := decide_eq_false (by have := HPP.out; omega)
      have d2 : decide (z2 < p2) = false := decide_eq_false (by have := HPP.out; omega)
      have d3 : ¬ z1 < p1 := by simpa using d1
      have d4 : ¬ z2 < p2 := by simpa using d2
      go_wp2_with fail
      have hx := X16.out
      have hv := V.out
      have hb := HB.out
      go_roundw
      case rel => exact ⟨i + 1, by omega, by rw [HW1.out], Lib.hid boxA, Lib.hid (hv.later belA), Lib.hid belA⟩
      case measure => rw [HW1.out]; simp [intOf]; omega
     ·obtain rfl : i = k := by omega
      go_wp2_with fail
      go_ret
      exact ⟨rfl, HB.out⟩
theorem PowerLengths_ok (v : Value) (l : List (Int × Int)) (turn : Int) (t0 : 0 ≤ turn) (t1 : turn ≤ 255) (w : World) (H : Drs w v l) (ht : Bld.Pow w) (he : whole.Er w) :
  Calls Tryz.prog 9 #[v, .int .u8 turn] w (fun e w' => e = .returned (.bool true) ∧ Below w.heap.size w w') := by
 obtain ⟨a, c, rfl, -⟩ := id H
 exact PowerLengths_main _ _ _ _ turn t0 t1 w H ht he
end Go.Proofs.verdigrislaw04
namespace Go.Proofs.YtpoecfpbafpokaaGreatDoor
open Go Go.ChangeShapes Go.WideShapes Go.RowKit Go.Proofs Go.Fra
section
variable {H : Type} {enc : TypeId × Value → H} {P : Program} {W : World} {base : Nat} {sp : Nat → Bool} {held : Bool}
theorem cells_read {a : Addr} {n : Nat} {cs : List Value} (h : W.cells? base a n = some cs) : ∀ i, i < n → W.cell? (a.add i) = cs[i]? := by
 unfold World.cells? at h
 split at h
 ·exact fun i hi => mapM_some_get h i i (by simp [hi])
 ·cases h
theorem cell_in {a : Addr} {v : Value} (h : W.cell? a = some v) : a.block < W.heap.size := by
 unfold World.cell? at h
 rcases Nat.lt_or_ge a.block W.heap.size with h1 | h1
 ·exact h1
 ·rw [Array.getElem?_eq_none h1] at h
  cases h
theorem trod_pairs {T E : TypeId} {k0 k1 : IntKind} {f0 f1 : Field} {fuel : Nat} {cs : List Value} {x : DataW H × List MemPlace} (uT : P.underlying T = some (.slice E)) (uE : P.underlying E = some (.struct #[f0, f1])) (o0 : f0.offset = 0) (o1 : f1.offset = 1)
  (u0 : P.underlying f0.type = some (.int k0)) (u1 : P.underlying f1.type = some (.int k1)) (c0 : P.cellsOf f0.type = 1) (c1 : P.cellsOf f1.type = 1) (cE : P.cellsOf E = 2) (h : DataW.trod enc P W base sp held fuel T cs = some x) :
  ∃ (a : Option Addr) (cap : Nat) (l : List (Int × Int)), cs = [.slice a l.length cap] ∧ l.length ≤ cap ∧ cap ≤ 9223372036854775807 ∧ ∀ k (_ : k < l.length), ∃ b off, a = some ⟨b, off, none⟩ ∧ b < W.heap.size ∧
   W.cell? ⟨b, off + k * 2, none⟩ = some (.int k0 l[k].1) ∧ W.cell? ⟨b, off + k * 2 + 1, none⟩ = some (.int k1 l[k].2) ∧ (Lit.int k0 l[k].1).wf = true ∧ (Lit.int k1 l[k].2).wf = true := by
 rcases DataW.trod_slice uT h with ⟨rfl, -⟩ | ⟨a, len, cap, elems, rest, n, -, rfl, -, -, h1, h2, h3, h4, -⟩
 ·exact ⟨none, 0, [], rfl, Nat.le_refl _, by omega, fun k hk => by cases hk⟩
 ·unfold maxLen at h2
  have hc : ∀ i, i < len → ∃ p : Int × Int, W.cell? (a.add (i * 2)) = some (.int k0 p.1) ∧ W.cell? ((a.add (i * 2)).add 1) = some (.int k1 p.2) ∧ (Lit.int k0 p.1).wf = true ∧ (Lit.int k1 p.2).wf = true := fun i hi => by
   have e := h4 i hi
   rw [List.getElem?_eq_getElem (by omega), cE, Option.bind_eq_some_iff] at e
   obtain ⟨cs', g1, g2⟩ := e
   obtain ⟨y0, y1, m, -, hl, hy0, hy1⟩ := trod_struct2 uE g2
   rw [cE] at hl
   obtain ⟨x0, x1, rfl⟩ : ∃ x0 x1, cs' = [x0, x1] := by
    match cs', hl with
    | [x0, x1], _ => exact ⟨x0, x1, rfl⟩
   rw [o0, c0] at hy0
   rw [o1, c1] at hy1
   obtain ⟨z0, e0, -, w0⟩ := DataW.trod_int u0 hy0
   obtain ⟨z1, e1, -, w1⟩ := DataW.trod_int u1 hy1
   replace e0 : [x0] = [Value.int k0 z0] := e0
   replace e1 : [x1] = [Value.int k1 z1] := e1
   simp only [List.cons.injEq, and_true] at e0 e1
   subst e0 e1
   have r := cells_read g1
   have r0 := r 0 (by omega)
   have r1 := r 1 (by omega)
   rw [show (a.add (i * 2)).add 0 = a.add (i * 2) by simp [Addr.add]] at r0
   exact ⟨(z0, z1), r0, r1, w0, w1⟩
  let g : Nat → Int × Int := fun i => if h : i < len then (hc i h).choose else (0, 0)
  refine ⟨some a, cap, (List.range len).map g, by simp, by simpa using h1, h2, fun k hk => ?_⟩
  rw [List.length_map, List.length_range] at hk
  have hsp := (hc k hk).choose_spec
  have hg : g k = (hc k hk).choose := by simp only [g, hk, dif_pos]
  rw [← hg] at hsp
  rw [List.getElem_map, List.getElem_range]
  have hs : a.spot = none := by simpa [Addr.add] using World.cell?_spot (hc 0 (by omega)).choose_spec.1
  have hl := cell_in hsp.1
  obtain ⟨b, off, spo⟩ := a
  simp only at hs
  subst hs
  simp only [Addr.add_lit] at hsp hl
  exact ⟨b, off, rfl, hl, hsp⟩
end
set_option maxRecDepth 100000 in
theorem open_drafts {H : Type} {enc : TypeId × Value → H} {W : World} {b0 base : Nat} {sp : Nat → Bool} {held : Bool} {v : Value} {d : DataW H} {p : List MemPlace}
  (hval : Value.okWide Tryz.prog W .any b0 56 v) (h : DataW.Trod enc Tryz.prog W base sp held 56 v d p) : ∃ l, Drs W v l := by
 obtain ⟨a0, n0, cap0, rfl⟩ := okWide_slice Tryz.underlying56 hval
 obtain ⟨fuel, hf⟩ := h
 obtain ⟨a, cap, l, e, h1, h2, h3⟩ := trod_pairs (k0 := .i64) (k1 := .u32) Tryz.underlying56 Tryz.underlying26 rfl rfl Tryz.underlying2 Tryz.underlying24 (by kernel_rfl) (by kernel_rfl) (by kernel_rfl) hf
 replace e : [Value.slice a0 n0 cap0] = [.slice a l.length cap] := e
 simp only [List.cons.injEq, and_true] at e
 refine ⟨l, a, cap, e, h1, h2, fun k hk => ?_⟩
 obtain ⟨b, off, k1, k2, k3, k4, -, k5⟩ := h3 k hk
 exact ⟨b, off, k1, k2, k3, k4, u32_wf k5⟩
end Go.Proofs.YtpoecfpbafpokaaGreatDoor
namespace Go.Proofs.YtpoecfpbafpokaaGreatDoor
open Go Go.ChangeShapes Go.WideShapes Go.ChangeAt Go.RowKit Go.Proofs
theorem own : ownKnob Tryz.prog.godebug = none := by kernel_rfl
theorem door_met (os : Os) (args : Array Value) : laidMetH Tryz.prog Rows.powerLengthsRow.laid ((World.doorLaid Tryz.prog 4000 os).forCall (fun _ _ => 0) ⟨#[], args, []⟩).memory := by
 rw [MakeChecks.laidMetH_plain _ _ _ (by kernel_rfl)]
 exact laidMet_of_run' 8 (by kernel_rfl) (by kernel_rfl)
theorem laidOut5 : laidOutB Tryz.prog = true := by kernel_rfl
set_option maxRecDepth 100000 in
theorem powerLengths_lifted (os : Os) (started : os.Started) (H : Type) (enc : TypeId × Value → H) :
  ReturnsInHanded {} Tryz.checked os 9 .any (fun w args => (Rows.powerLengthsSpec.pre enc Tryz.prog Tryz.f9 [] false w args ∧ laidMetH Tryz.prog Rows.powerLengthsRow.laid w) ∧ sizedMet enc Tryz.prog Tryz.f9 (OpenSpec.ofChange Rows.powerLengthsSpec) false w args)
   (Rows.powerLengthsSpec.post enc Tryz.prog Tryz.f9 false true false false) := by
 refine returnsInHanded_of_change_and (C := Tryz.checked) (X := fun w _ => laidMetH Tryz.prog Rows.powerLengthsRow.laid w) (fun _ _ _ hh h => h.of_heap hh) own started (by kernel_rfl) Tryz.func9
  (ChangeSpec.witness_shaped (enc := enc) (C := Tryz.checked) (os := os) (X := fun w _ => laidMetH Tryz.prog Rows.powerLengthsRow.laid w) false (World.doorLaid Tryz.prog 4000 os) #[.slice none 0 0, .int .u8 0] 8 rfl (World.shaped_of_RefB (by kernel_rfl) (by kernel_rfl)) (by kernel_rfl) (by kernel_rfl) (by kernel_rfl) (door_met os _)) ?_
 intro W base args ds gs before hval0 hW _ _ hL _
 have hW' := hW
 obtain ⟨p, q, hA0, hV, rfl, hfz, hnd⟩ := hW
 have hA : DataW.TrodAll enc Tryz.prog W 0 (fun _ => true) true Tryz.f9.params.toList args.toList ds p := hA0
 rw [Tryz.params9] at hA
 have hval : ∀ (j : Nat) t v, Tryz.f9.params[j]? = some t → args[j]? = some v → Value.okWide Tryz.prog W .any base t v := hval0
 rw [Tryz.params9] at hval
 obtain ⟨v0, vs0, d0, ds0, p0, q0, hargs, rfl, rfl, h0, hr0⟩ := trodAll_cons hA
 obtain ⟨v1, vs1, d1, ds1, p1, q1, rfl, rfl, rfl, h1, hr1⟩ := trodAll_cons hr0
 obtain ⟨rfl, rfl, rfl⟩ := trodAll_nil hr1
 obtain rfl : args = #[v0, v1] := by cases args; simp_all
 obtain ⟨rfl, rfl⟩ := trodVars_none hV
 have h0k := h0
 obtain ⟨l0, w0⟩ := open_drafts (hval 0 56 v0 rfl rfl) h0
 obtain ⟨n, rfl, rfl, rfl, wn⟩ := open_int Tryz.underlying5 (hval 1 5 v1 rfl rfl) h1
 obtain ⟨hp, hc⟩ := of_laid hL
 simp only [List.nil_append, List.append_nil] at hW'
 have hlt0 : ∀ x ∈ p0, x.block < W.heap.size := fun x hx => hW'.lt x (by simpa using hx)
 refine (verdigrislaw04.PowerLengths_ok v0 l0 n (u8_wf wn).1 (u8_wf wn).2 W w0 hp hc).mono fun e W' ⟨he, hb⟩ => ?_
 subst he
 refine ⟨_, rfl, _, _, _, [], p0, [], (by simpa using hW'), ?_, ?_, ?_, hb.frame _, fun h => by cases h⟩
 ·exact trodAll_mk1 (shut_bool Tryz.underlying4 true)
 ·exact ⟨p0, [], Below.trod laidOut5 (by kernel_rfl) (of_decide_eq_true (by kernel_rfl)) h0k hb hlt0, trodAll_mk1 (shut_int Tryz.underlying5 wn), by simp⟩
 ·rfl
theorem powerLengths_holds : Rows.PowerLengthsSaid :=
 OpenClaim.holds_of_wide 9 Tryz.f9 rfl rfl rfl rfl rfl rfl rfl ⟨rfl, rfl, rfl, rfl, rfl⟩ rfl rfl rfl rfl rfl (by kernel_rfl) Tryz.func9 (by kernel_rfl)
  (of_decide_eq_true (by kernel_rfl)) (by unfold Func.isWrapper; first | (rw [if_pos (by decide +kernel)]; kernel_rfl) | (rw [if_neg (by decide +kernel)]; exact ⟨rfl, rfl⟩))
  (fun os started H enc _ => powerLengths_lifted os started H enc)
theorem wants0 : Tryz.prog.wantsStandIn 56 = false := by kernel_rfl
theorem wants1 : Tryz.prog.wantsStandIn 5 = false := by kernel_rfl
theorem powerLengths_card : Rows.PowerLengthsCardSaid :=
 Claim7.holds_tied_plain_at .later [] [.data, .data, .data, .sentinel, .sentinel] true (true, "bc1bf536eb06bf18bc4c231e9aa64150270bda42f4b23e044d7bfc9ab11b0e23") true
  powerLengths_holds (fun _ h => by cases h) (by kernel_rfl) (fun _ h => by cases h) powerLengths_row_tie rfl ⟨rfl, rfl⟩ (by kernel_rfl) rfl
  (fun f fn hf hfn => by
   obtain rfl : f = 9 := Option.some.inj ((show Tryz.prog.funcNamed "verdigris/verdigrislaw04.PowerLengths" = some 9 by kernel_rfl).symm.trans hf) |>.symm
   obtain rfl : fn = Tryz.f9 := (Option.some.inj (Tryz.func9.symm.trans hfn)).symm
   exact ⟨by kernel_rfl, fun j t ht => by
    rw [Tryz.params9] at ht
    have ht' : t = 56 ∨ t = 5 := by
     rcases j with _ | _ | j <;> simp at ht
     ·exact .inl ht.symm
     ·exact .inr (ht.symm)
    rcases ht' with rfl | rfl
    ·exact wants0
    ·exact wants1⟩)
  (by kernel_rfl)
end Go.Proofs.YtpoecfpbafpokaaGreatDoor
