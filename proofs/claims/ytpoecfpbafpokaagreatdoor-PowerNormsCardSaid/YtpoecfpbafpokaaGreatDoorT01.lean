/- verdigrislaw04.PowerNorms returns true. Conditions: those of the given row. -/
import Derived.Test.YtpoecfpbafpokaaGreatDoorSB01
import Derived.Test.YtpoecfpbafpokaaGreatDoorSB02
import Derived.Test.YtpoecfpbafpokaaGreatDoorSB03
import Derived.Test.YtpoecfpbafpokaaGreatDoorSB04
import Derived.Test.YtpoecfpbafpokaaGreatDoorSB05
import Derived.Test.YtpoecfpbafpokaaGreatDoorSB06
import Derived.Test.YtpoecfpbafpokaaGreatDoorSB07
import Derived.Test.YtpoecfpbafpokaaGreatDoorSB08
import Derived.Test.YtpoecfpbafpokaaGreatDoorSB09
import Derived.Test.YtpoecfpbafpokaaGreatDoorSB10
import Derived.Test.YtpoecfpbafpokaaGreatDoorSB11
import Derived.Test.YtpoecfpbafpokaaGreatDoorCards
import Derived.Test.YtpoecfpbafpokaaGreatDoorTie
import Derived.Maps.AppendAt
import Derived.Deep.AppendSrc
import Derived.Deep.DeepAppendWide
import Derived.Laws.IdiomCopy
import Derived.ChangeArms
import Derived.ChangeSame
import Derived.ChangeVars
import Derived.JoinedOf
import Derived.SevenTiedAt
import Derived.ChangeMaps5
import Derived.Carry
set_option linter.unusedVariables false
set_option linter.unusedSimpArgs false
namespace Go.Proofs.verdigrislaw04
open Go Go.RowKit Go.SW Go.Num Go.Mem Go.Proofs Go.Proofs.band
theorem tmod_bounds {z : Int} {m : Nat} (hm : 0 < m) : -(m : Int) < Int.tmod z m ∧ Int.tmod z m < m := by
 have h1 := Int.natAbs_tmod z m
 have h2 := Nat.mod_lt z.natAbs hm
 simp only [Int.natAbs_natCast] at h1
 omega
set_option maxRecDepth 10000 in
set_option maxHeartbeats 1000000 in
theorem Small_ok (at' wide : Int) (w0 : 0 ≤ wide) (w1 : wide ≤ 4294967295) (w : World) :
  Calls Tryz.prog 13 #[.agg #[.int .i64 at', .int .u32 wide]] w (fun e w' => (∃ lo hi : Int, e = .returned (.agg #[.int .i64 lo, .int .i64 hi]) ∧ -19000000000000 < lo ∧ lo ≤ hi ∧ hi ≤ 19000001000000) ∧ Below w.heap.size w w') := by
 obtain ⟨b1, b2⟩ := tmod_bounds (z := at') (m := 19000000000000) (by omega)
 generalize hm : Int.tmod at' 19000000000000 = m at *
 go_enter Tryz.func13, Tryz.ntmps13
 go_wp2_with fail
 all_goals
  refine ret_c rfl rfl boxA Tryz.underlying23 rfl (by kernel_rfl) ?_
  exact ⟨⟨_, _, rfl, by omega, by omega, by omega⟩, belA⟩
set_option maxRecDepth 10000 in
set_option maxHeartbeats 1000000 in
theorem Band_ok (at' wide : Int) (w0 : 0 ≤ wide) (w1 : wide ≤ 4294967295) (w : World) :
  Calls Tryz.prog 12 #[.agg #[.int .i64 at', .int .u32 wide]] w (fun e w' => (∃ lo hi : Int, e = .returned (.agg #[.int .i64 lo, .int .i64 hi]) ∧ -1000000000000000000 ≤ lo ∧ lo ≤ hi ∧ hi ≤ 1000000000000000000) ∧ Below w.heap.size w w') := by
 obtain ⟨b1, b2⟩ := tmod_bounds (z := at') (m := 1000000000000000001) (by omega)
 generalize hm : Int.tmod at' 1000000000000000001 = m at *
 go_enter Tryz.func12, Tryz.ntmps12
 go_wp2_with fail
 all_goals
  refine ret_c rfl rfl boxA Tryz.underlying23 rfl (by kernel_rfl) ?_
  exact ⟨⟨_, _, rfl, by omega, by omega, by omega⟩, belA⟩
end Go.Proofs.verdigrislaw04
namespace Go.Fra
open Go.Num
def C24 : Rat := ((1000000000000000000000000 : Int) : Rat)
theorem C24_pos : 0 < C24 := by unfold C24; exact Rat.intCast_pos.2 (by omega)
/-- The sum of the squares of l units. -/
def sumQ (l : List Nat) : Rat := ((sqs l : Int) : Rat) / C24
theorem sumQ_nil : ((0 : Int) : Rat) / ((1 : Int) : Rat) = sumQ [] := by
 unfold sumQ sqs
 simp [Rat.div_def]
theorem sq_C24 (x : Nat) : rN x ^ 2 = (((x ^ 2 : Nat) : Int) : Rat) / C24 := by
 have h : C24 = ((1000000000000 : Int) : Rat) * ((1000000000000 : Int) : Rat) := by
  unfold C24
  rw [← Rat.intCast_mul]
  rfl
 have hp : ((1000000000000 : Int) : Rat) ≠ 0 := by decide
 unfold rN
 rw [h]
 generalize ((1000000000000 : Int) : Rat) = c at *
 rw [Int.natCast_pow, Rat.intCast_pow]
 generalize (((x : Nat) : Int) : Rat) = y
 grind
theorem sumQ_snoc (l : List Nat) (x : Nat) : sumQ (l ++ [x]) = sumQ l + rN x ^ 2 := by
 rw [sq_C24]
 unfold sumQ
 rw [sqs_append]
 have : sqs [x] = x ^ 2 := by simp [sqs]
 rw [this, Int.natCast_add, Rat.intCast_add]
 have := C24_pos
 grind
theorem lt_C24 (a b : Nat) : ((a : Int) : Rat) / C24 < ((b : Int) : Rat) / C24 ↔ a < b := by
 have h0 := C24_pos
 have h1 : C24 ≠ 0 := fun e => by rw [e] at h0; exact absurd h0 (by decide)
 rw [Rat.div_lt_iff h0, Rat.div_mul_cancel h1, Rat.intCast_lt_intCast]
 omega
theorem cmp_sum (m : Nat) (l : List Nat) : (cmpq (rN m ^ 2) (sumQ l) ≤ 0 ↔ m ≤ nlo l) ∧ (cmpq (rN m ^ 2) (sumQ l) < 0 ↔ m ^ 2 < sqs l) := by
 have h1 : rN m ^ 2 < sumQ l ↔ m ^ 2 < sqs l := by rw [sq_C24]; exact lt_C24 _ _
 have h2 : sumQ l < rN m ^ 2 ↔ sqs l < m ^ 2 := by rw [sq_C24]; exact lt_C24 _ _
 have h3 : m ≤ nlo l ↔ m ^ 2 ≤ sqs l := ⟨fun h => Nat.le_trans (Nat.pow_le_pow_left h 2) (nlo_spec l).1, le_nlo⟩
 unfold cmpq
 constructor
 ·rw [h3]
  split
  ·rename_i h
   have := h1.1 h
   omega
  ·split
   ·rename_i h
    have := h2.1 h
    omega
   ·rename_i h
    have : ¬ sqs l < m ^ 2 := fun k => h (h2.2 k)
    omega
 ·split
  ·rename_i h
   have := h1.1 h
   omega
  ·rename_i h
   have : ¬ m ^ 2 < sqs l := fun k => h (h1.2 k)
   split <;> omega
end Go.Fra
namespace Go.Proofs.verdigrisref04
open Go Go.RowKit Go.SW Go.Num Go.Mem Go.Proofs Go.Dec Go.Fra Go.Proofs.band Go.Proofs.verdigrisref02 Go.Proofs.verdigrisref03 Go.Proofs.power
theorem sumQ_szq {l : List Nat} (h : sqs l ≤ 10 ^ 38) : szq 10 (sumQ l) := by
 unfold sumQ C24
 obtain ⟨h1, h2⟩ := low_le (n := (sqs l : Int)) (d := 1000000000000000000000000) (by omega)
 rw [Int.natAbs_natCast] at h1
 exact ⟨sz_le_of_lt (by omega) _ _ (by omega), sz_le_of_lt (by omega) _ _ (by omega)⟩
theorem seek_sum {l : List Nat} (h : sqs l ≤ 10 ^ 38) : Seek (sumQ l) 2 (nlo l) where
 q12 := by omega
 big := (sumQ_szq h).mono (by omega)
 iff := fun m => (cmp_sum m l).1
theorem upN_sum {l : List Nat} (h : nlo l ≤ 1000000000000000001) : upN (sumQ l) 2 (nlo l) = nhi l := by
 unfold upN nhi
 rw [Nat.min_eq_left h]
 have h1 := (nlo_spec l).1
 have h2 := (cmp_sum (nlo l) l).2
 split
 ·rename_i k
  have := h2.1 k
  rw [if_neg (by omega)]
 ·rename_i k
  have : ¬ nlo l ^ 2 < sqs l := fun j => k (h2.2 j)
  rw [if_pos (by omega)]
theorem bok_big {a b : Nat} (h : 1000000000000000000 < a ∨ 1000000000000000000 < b) : bok (a : Int) (b : Int) = false := by
 unfold bok
 rw [Bool.and_eq_false_iff]
 right
 rw [Bool.and_eq_false_iff]
 by_cases h2 : b ≤ 1000000000000000000
 ·left
  exact decide_eq_false (by omega)
 ·right
  exact decide_eq_false (by omega)
theorem upN_min {X : Rat} {q r : Nat} : min r 1000000000000000001 ≤ upN X q r := by
 unfold upN
 split <;> omega
theorem made_sum (a b : List Nat) : madeE ((min (nlo a) 1000000000000000001 : Nat) : Int) ((upN (sumQ b) 2 (nlo b) : Nat) : Int) = outE (nrmV a false) (nrmV b true) := by
 unfold outE nrmV
 have t : (10 : Nat) ^ 18 = 1000000000000000000 := by decide
 rw [t]
 unfold madeE
 by_cases h1 : nlo a ≤ 1000000000000000000
 ·by_cases h2 : nlo b ≤ 1000000000000000000
  ·rw [if_pos h1, if_pos h2, Nat.min_eq_left (by omega), upN_sum (by omega)]
   simp
  ·rw [bok_big (.inr (Nat.lt_of_lt_of_le (by omega) upN_min)), if_pos h1, if_neg h2]
   simp
 ·rw [bok_big (.inl (by omega)), if_neg h1]
  simp
theorem abE_ok {lo hi : Int} (h : bok lo hi = true) : abE lo hi = (((blo (lo, hi) : Int), (bhi (lo, hi) : Int)), 0) ∧ blo (lo, hi) ≤ 10 ^ 18 ∧ bhi (lo, hi) ≤ 10 ^ 18 := by
 obtain ⟨k1, k2, k3⟩ : -1000000000000000000 ≤ lo ∧ lo ≤ hi ∧ hi ≤ 1000000000000000000 := by simpa [bok] using h
 unfold abE blo bhi
 rw [h]
 simp only [Bool.true_eq_false, if_false]
 refine ⟨?_, by omega, by omega⟩
 split
 ·congr 2 <;> omega
 ·split
  ·congr 2 <;> omega
  ·congr 2 <;> omega
theorem abE_no {lo hi : Int} (h : bok lo hi = false) : abE lo hi = ((0, 0), 30) := by
 unfold abE
 rw [if_pos h]
theorem sqs_le {l : List Nat} (h : ∀ x ∈ l, x ≤ 10 ^ 18) (h8 : l.length ≤ 8) : sqs l ≤ 10 ^ 38 := by
 have := sqs_bound h
 have h2 := Nat.mul_le_mul h8 (Nat.le_refl ((10 ^ 18) ^ 2))
 omega
end Go.Proofs.verdigrisref04
namespace Go.Proofs.verdigrisref04
open Go Go.RowKit Go.SW Go.Num Go.Mem Go.Proofs Go.Dec Go.Fra Go.Proofs.band Go.Proofs.verdigrisref02 Go.Proofs.verdigrisref03 Go.Proofs.power
theorem take_map {l : List (Int × Int)} {k : Nat} (f : Int × Int → Nat) (h : k < l.length) : (l.map f).take (k + 1) = (l.map f).take k ++ [f l[k]] := by
 rw [List.take_succ_eq_append_getElem (by simpa using h), List.getElem_map]
/-- The bands looked at so far are valid. -/
def OkTo (bs : List (Int × Int)) (k : Nat) : Prop := ∀ j (h : j < bs.length), j < k → bok bs[j].1 bs[j].2 = true
theorem okTo_le {bs : List (Int × Int)} {k : Nat} (h : OkTo bs k) (h8 : bs.length ≤ 8) : sqs ((bs.map blo).take k) ≤ 10 ^ 38 ∧ sqs ((bs.map bhi).take k) ≤ 10 ^ 38 := by
 have key : ∀ f : Int × Int → Nat, (∀ lo hi, bok lo hi = true → f (lo, hi) ≤ 10 ^ 18) → sqs ((bs.map f).take k) ≤ 10 ^ 38 := fun f hf => by
  refine sqs_le (fun x hx => ?_) (by rw [List.length_take, List.length_map]; omega)
  obtain ⟨j, hj, rfl⟩ := List.getElem_of_mem hx
  rw [List.length_take, List.length_map] at hj
  rw [List.getElem_take, List.getElem_map]
  exact hf _ _ (h j (by omega) (by omega))
 exact ⟨key blo fun lo hi h => (abE_ok h).2.1, key bhi fun lo hi h => (abE_ok h).2.2⟩
theorem okTo_all {bs : List (Int × Int)} (h : OkTo bs bs.length) : okB bs = true := by
 unfold okB
 rw [List.all_eq_true]
 intro x hx
 obtain ⟨j, hj, rfl⟩ := List.getElem_of_mem hx
 exact h j hj hj
theorem okTo_no {bs : List (Int × Int)} {k : Nat} (hk : k < bs.length) (h : bok bs[k].1 bs[k].2 = false) : okB bs = false := by
 unfold okB
 rw [List.all_eq_false]
 exact ⟨bs[k], List.getElem_mem _, by rw [h]; simp⟩
set_option maxRecDepth 10000 in
set_option maxHeartbeats 4000000 in
theorem Norm_main (a : Option Addr) (cap : Nat) (bs : List (Int × Int)) (h1 : 1 ≤ bs.length) (h8 : bs.length ≤ 8) (hc1 : bs.length ≤ cap) (hc2 : cap ≤ 9223372036854775807) (w : World)
  (hread : ∀ k (_ : k < bs.length), ∃ b off, a = some ⟨b, off, none⟩ ∧ b < w.heap.size ∧ w.cell? ⟨b, off + k * 2, none⟩ = some (.int .i64 bs[k].1) ∧ w.cell? ⟨b, off + k * 2 + 1, none⟩ = some (.int .i64 bs[k].2)) :
  Calls Tryz.prog 26 #[.slice a bs.length cap] w (fun e w' => e = .returned (bndV (nrmE bs)) ∧ Below w.heap.size w w') := by
 have HR := Lib.hid hread
 have H8 := Lib.hid h8
 have q1 : ¬ (bs.length : Int) = 0 := by omega
 have q2 : ¬ (8 : Int) < (bs.length : Int) := by omega
 obtain ⟨z, EZ⟩ : ∃ z, nrmE bs = z := ⟨_, rfl⟩
 rw [EZ]
 unfold nrmE at EZ
 rw [if_neg (by omega), if_neg (by omega)] at EZ
 have HZ := Lib.hid EZ
 clear EZ hread
 obtain ⟨⟨z1, z2⟩, z3⟩ := z
 have HQ := Lib.hid (fun W => Quick_ok 0 1 (by omega) (by omega) (by omega) (by omega) (by omega) W)
 rw [sumQ_nil] at HQ
 unfold bndV
 go_enter Tryz.func26, Tryz.ntmps26
 go_wp2_with fail
 obtain ⟨wx, EW, hz, X2⟩ := al1 w #[.int .i64 0, .int .i64 0] 23
 rw [EW]
 clear EW
 refine (HQ.out _).mono ?_
 rintro e w1 ⟨v1, rfl, hb, hv1⟩
 obtain ⟨bV1, pV1, nV1, eV1, dV1, qV1, mV1, fV1, rfl, -⟩ := id hv1; have V1 := Lib.hid hv1; clear hv1
 replace X2 := X2.bl hb
 have HB := Lib.hid (Bt hz hb)
 clear hz hb
 go_wp2_with fail
 refine (HQ.out _).mono ?_
 rintro e w2 ⟨v2, rfl, hb, hv2⟩
 obtain ⟨bV2, pV2, nV2, eV2, dV2, qV2, mV2, fV2, rfl, -⟩ := id hv2; have V2 := Lib.hid hv2; clear hv2
 replace X2 := X2.bl hb
 replace HB := Lib.hid (Bt HB.out hb)
 replace V1 := Lib.hid (V1.out.later hb)
 clear hb HQ
 go_wp2_with fail
 obtain ⟨wy, EW, hz, X4, X5⟩ := al2 w2 #[.bool bV1, .slice pV1 nV1 eV1, .bool dV1, .slice qV1 mV1 fV1] 97 #[.bool bV2, .slice pV2 nV2 eV2, .bool dV2, .slice qV2 mV2 fV2] 97
 (try rw [EW])
 clear EW
 have hg0 : w.heap.size < w2.heap.size := X2.out.lt
 replace X2 := X2.bl hz
 replace HB := Lib.hid (Bt HB.out hz)
 replace V1 := Lib.hid (V1.out.later hz)
 replace V2 := Lib.hid (V2.out.later hz)
 obtain ⟨g, eg⟩ : ∃ g, w2.heap.size = g := ⟨_, rfl⟩
 rw [eg] at X4 X5 hg0 ⊢
 have HG := Lib.hid hg0
 clear eg hz hg0
 go_loopw [6] (fun iv wr => ∃ (k : Nat) (b1 : Bool) (p1 : Option Addr) (n1 e1 : Nat) (d1 : Bool) (q1 : Option Addr) (m1 f1 : Nat) (b2 : Bool) (p2 : Option Addr) (n2 e2 : Nat) (d2 : Bool) (q2 : Option Addr) (m2 f2 : Nat), k ≤ bs.length ∧ iv = .int .i64 (k : Int) ∧ Hid (OkTo bs k) ∧
   Hid (Ra wr (.agg #[.bool b1, .slice p1 n1 e1, .bool d1, .slice q1 m1 f1]) (sumQ ((bs.map blo).take k))) ∧ Hid (Ra wr (.agg #[.bool b2, .slice p2 n2 e2, .bool d2, .slice q2 m2 f2]) (sumQ ((bs.map bhi).take k))) ∧
   Hid (Box wr g #[.bool b1, .slice p1 n1 e1, .bool d1, .slice q1 m1 f1] 97) ∧ Hid (Box wr (g + 1) #[.bool b2, .slice p2 n2 e2, .bool d2, .slice q2 m2 f2] 97) ∧ Hid (Box wr w.heap.size #[.int .i64 0, .int .i64 0] 23) ∧ Hid (Below w.heap.size w wr)) (fun iv _ => bs.length - (intOf iv).toNat)
 case atStart => exact ⟨0, _, _, _, _, _, _, _, _, _, _, _, _, _, _, _, _, by omega, rfl, Lib.hid (fun j _ h => by omega), V1, V2, X4, X5, X2, HB⟩
 case round =>
  clear X2 X4 X5 V1 V2 HB
  obtain ⟨k, b1, p1, n1, e1, d1, q1', m1, f1, b2, p2, n2, e2, d2, q2', m2, f2, hk, rfl, HO, V1, V2, X4, X5, X2, HB⟩ := hrel
  rcases Nat.lt_or_ge k bs.length with hlt | hge
  ·obtain ⟨b, off, rfl, hbl, hx1, hx2⟩ := HR.out k hlt
   have hc1 := (HB.out.cell (p := ⟨b, off + k * 2, none⟩) hbl).trans hx1
   have hc2 := (HB.out.cell (p := ⟨b, off + k * 2 + 1, none⟩) hbl).trans hx2
   clear hx1 hx2
   have HT := Lib.hid (And.intro (take_map blo hlt) (take_map bhi hlt))
   have HN := Lib.hid (fun h : bok bs[k].1 bs[k].2 = false => okTo_no hlt h)
   have HY := Lib.hid (fun h : bok bs[k].1 bs[k].2 = true => show OkTo bs (k + 1) from fun j hj hjk => by
    rcases Nat.lt_or_ge j k with h' | h'
    ·exact HO.out j hj h'
    ·obtain rfl : j = k := by omega
     exact h)
   generalize bs[k] = y at *
   obtain ⟨y1, y2⟩ := y
   simp only at hc1 hc2 HN HY
   have HA := Lib.hid (fun W => verdigrisref03.Abs_ok y1 y2 W)
   have hk8 : (k : Int) < (bs.length : Int) := by omega
   have hkw : (k : Int) < 9223372036854775807 := by omega
   rcases Bool.eq_false_or_eq_true (bok y1 y2) with hbk | hbk
   ·obtain ⟨ha1, ha2, ha3⟩ := abE_ok hbk
    rw [ha1] at HA
    unfold bndV at HA
    simp only at HA
    have HOK := Lib.hid (HY.out hbk)
    obtain ⟨a, ea⟩ : ∃ a, blo (y1, y2) = a := ⟨_, rfl⟩
    obtain ⟨c, ec⟩ : ∃ c, bhi (y1, y2) = c := ⟨_, rfl⟩
    rw [ea] at HA HT ha2
    rw [ec] at HA HT ha3
    have HAC := Lib.hid (And.intro ha2 ha3)
    clear ha1 ha2 ha3 ea ec HN HY hbk
    go_wp2_with fail
    refine (HA.out _).mono ?_
    rintro e w3 ⟨rfl, hb⟩
    replace X2 := X2.bl hb
    replace X4 := X4.bl hb
    replace X5 := X5.bl hb
    replace HB := Lib.hid (Bt HB.out hb)
    replace V1 := Lib.hid (V1.out.later hb)
    replace V2 := Lib.hid (V2.out.later hb)
    clear hb HA hc1 hc2
    obtain ⟨wz, EW, hz, X7⟩ := al1 w3 #[.int .i64 (a : Int), .int .i64 (c : Int)] 23
    have hg7 : g + 1 < w3.heap.size := X5.out.lt
    replace X2 := X2.bl hz
    replace X4 := X4.bl hz
    replace X5 := X5.bl hz
    replace HB := Lib.hid (Bt HB.out hz)
    replace V1 := Lib.hid (V1.out.later hz)
    replace V2 := Lib.hid (V2.out.later hz)
    obtain ⟨g7, eg⟩ : ∃ g, w3.heap.size = g := ⟨_, rfl⟩
    rw [eg] at X7 hg7
    have HG7 := Lib.hid hg7
    obtain ⟨c4, l4⟩ := X4.cl
    obtain ⟨c7, l7⟩ := X7.cl
    clear hz hg7
    go_wp2_with fail
    (try rw [EW])
    clear EW eg
    refine wp_region_walk [(.read, 0), (.pure, 1), (.read, 2), (.ext, 3), (.ext, 4), (.ext, 5), (.fin, 6)] (by kernel_rfl) (by kernel_rfl) (allocRuns_of (by kernel_rfl)) (fun _ _ _ _ hd h => And.intro (hd.trans (And.left h)) (And.right h)) ?_
    refine Wk.out ?_
    repeat (first | (apply wk_skip; (rfl); (rfl); (rfl); (intro J hJ; go_simp; (with_reducible refine hJ _ ?_); clear hJ J)) | (apply wk_len; (rfl); (rfl); (rfl); (rfl); (exact (by kernel_rfl)); (intro J hJ; go_simp; (with_reducible refine hJ _ ?_); clear hJ J)) | (apply wk_pure; (rfl); (rfl); (intro J hJ; go_simp; (with_reducible refine hJ _ ?_); clear hJ J)) | (apply wk_load; (rfl); (rfl); (rfl); (rfl); (intro J hJ; go_simp; (with_reducible refine hJ _ ?_); clear hJ J; try go_simp)))
    repeat (first | (apply wk_skip; (rfl); (rfl); (rfl); (intro J hJ; go_simp; (with_reducible refine hJ _ ?_); clear hJ J)) | (apply wk_len; (rfl); (rfl); (rfl); (rfl); (exact (by kernel_rfl)); (intro J hJ; go_simp; (with_reducible refine hJ _ ?_); clear hJ J)) | (apply wk_pure; (rfl); (rfl); (intro J hJ; go_simp; (with_reducible refine hJ _ ?_); clear hJ J)) | (apply wk_load; (rfl); (rfl); (rfl); (rfl); (intro J hJ; go_simp; (with_reducible refine hJ _ ?_); clear hJ J; try go_simp)))
    refine wk_ext rfl rfl (fun wa1 ha1 J hJ => ?_)
    have hs1 : Below wz.heap.size wz wa1 := (by first | exact ha1 | exact belA)
    have hx1 : Below wz.heap.size wz wa1 := hs1
    go_simp
    refine (Value_ok a (by have := HAC.out; omega) wa1).mono ?_
    rintro e wb1 ⟨v, rfl, hb1, hv⟩
    refine hJ _ _ hb1 ?_
    have hy1 := Bt hx1 hb1
    obtain ⟨bS1, pS1, nS1, eS1, dS1, qS1, mS1, fS1, rfl, -⟩ := id hv; have S1 := Lib.hid hv; clear hv
    clear hJ J ha1 hb1 hs1 hx1
    repeat (first | (apply wk_skip; (rfl); (rfl); (rfl); (intro J hJ; go_simp; (with_reducible refine hJ _ ?_); clear hJ J)) | (apply wk_len; (rfl); (rfl); (rfl); (rfl); (exact (by kernel_rfl)); (intro J hJ; go_simp; (with_reducible refine hJ _ ?_); clear hJ J)) | (apply wk_pure; (rfl); (rfl); (intro J hJ; go_simp; (with_reducible refine hJ _ ?_); clear hJ J)) | (apply wk_load; (rfl); (rfl); (rfl); (rfl); (intro J hJ; go_simp; (with_reducible refine hJ _ ?_); clear hJ J; try go_simp)))
    refine wk_ext rfl rfl (fun wa2 ha2 J hJ => ?_)
    have hs2 : Below wb1.heap.size wb1 wa2 := (by first | exact ha2 | exact belA)
    have hx2 : Below wz.heap.size wz wa2 := Bt hy1 hs2
    go_simp
    refine (rN_raised a 2 (by have := HAC.out; omega) (by omega) _ wa2 (S1.out.later hs2)).mono ?_
    rintro e wb2 ⟨v, rfl, hb2, hv⟩
    refine hJ _ _ hb2 ?_
    have hy2 := Bt hx2 hb2
    clear S1; obtain ⟨bT1, pT1, nT1, eT1, dT1, qT1, mT1, fT1, rfl, -⟩ := id hv; have T1 := Lib.hid hv; clear hv
    clear hJ J ha2 hb2 hs2 hx2 hy1
    repeat (first | (apply wk_skip; (rfl); (rfl); (rfl); (intro J hJ; go_simp; (with_reducible refine hJ _ ?_); clear hJ J)) | (apply wk_len; (rfl); (rfl); (rfl); (rfl); (exact (by kernel_rfl)); (intro J hJ; go_simp; (with_reducible refine hJ _ ?_); clear hJ J)) | (apply wk_pure; (rfl); (rfl); (intro J hJ; go_simp; (with_reducible refine hJ _ ?_); clear hJ J)) | (apply wk_load; (rfl); (rfl); (rfl); (rfl); (intro J hJ; go_simp; (with_reducible refine hJ _ ?_); clear hJ J; try go_simp)))
    refine wk_ext rfl rfl (fun wa3 ha3 J hJ => ?_)
    have hs3 : Below wb2.heap.size wb2 wa3 := (by first | exact ha3 | exact belA)
    have hx3 : Below wz.heap.size wz wa3 := Bt hy2 hs3
    go_simp
    refine (verdigrisref02.Plus_ok _ _ _ _ wa3 (V1.out.later hx3) (T1.out.later hs3) ((sumQ_szq (okTo_le HO.out H8.out).1).mono (by omega)) ((okq_sz (rN_pow_ok (by have := HAC.out; omega) (by omega))).mono (by omega))).mono ?_
    rintro e wb3 ⟨v, rfl, hb3, hv⟩
    refine hJ _ _ hb3 ?_
    have hy3 := Bt hx3 hb3
    clear T1; rw [← sumQ_snoc, ← HT.out.1] at hv; obtain ⟨bU1, pU1, nU1, eU1, dU1, qU1, mU1, fU1, rfl, -⟩ := id hv; have U1 := Lib.hid hv; clear hv
    clear hJ J ha3 hb3 hs3 hx3 hy2
    refine wk_fin [_] rfl (fun wf1 hbf => ?_)
    have hyf := Bt hy3 hbf
    replace X2 := X2.bl hyf
    replace X4 := X4.bl hyf
    replace X5 := X5.bl hyf
    replace X7 := X7.bl hyf
    replace HB := Lib.hid (Bt HB.out hyf)
    replace V2 := Lib.hid (V2.out.later hyf)
    replace U1 := Lib.hid (U1.out.later hbf)
    clear hyf hy3 hbf c7 l7
    clear c4 l4
    obtain ⟨c4, l4, f4⟩ := X4.clf
    go_wp2_with fail
    have hne2 : w.heap.size ≠ g := by have := HG.out; omega
    have hne5 : g + 1 ≠ g := by omega
    have hne7 : g7 ≠ g := by have := HG7.out; omega
    have hle : w.heap.size ≤ g := by have := HG.out; omega
    obtain ⟨ws, ES⟩ : ∃ y, (((wf1.setCell ⟨g, 0, none⟩ (.bool bU1)).setCell ⟨g, 1, none⟩ (.slice pU1 nU1 eU1)).setCell ⟨g, 2, none⟩ (.bool dU1)).setCell ⟨g, 3, none⟩ (.slice qU1 mU1 fU1) = y := ⟨_, rfl⟩
    have hx4 : Box ws g #[.bool bU1, .slice pU1 nU1 eU1, .bool dU1, .slice qU1 mU1 fU1] 97 := by
     rw [← ES]
     exact (((X4.out.set 0 _).set 1 _).set 2 _).set 3 _
    have hx2 : Box ws w.heap.size #[.int .i64 0, .int .i64 0] 23 := by
     rw [← ES]
     exact (((X2.out.setOther _ hne2).setOther _ hne2).setOther _ hne2).setOther _ hne2
    have hx5 : Box ws (g + 1) #[.bool b2, .slice p2 n2 e2, .bool d2, .slice q2' m2 f2] 97 := by
     rw [← ES]
     exact (((X5.out.setOther _ hne5).setOther _ hne5).setOther _ hne5).setOther _ hne5
    have hx7 : Box ws g7 #[.int .i64 (a : Int), .int .i64 (c : Int)] 23 := by
     rw [← ES]
     exact (((X7.out.setOther _ hne7).setOther _ hne7).setOther _ hne7).setOther _ hne7
    have hbs : Below w.heap.size w ws := by
     rw [← ES]
     exact (((HB.out.setCell hle _).setCell hle _).setCell hle _).setCell hle _
    have hv2 := Ra.set4 V2.out X4.out (by decide) (.bool bU1) (.slice pU1 nU1 eU1) (.bool dU1) (.slice qU1 mU1 fU1)
    have hu1 := Ra.set4 U1.out X4.out (by decide) (.bool bU1) (.slice pU1 nU1 eU1) (.bool dU1) (.slice qU1 mU1 fU1)
    rw [ES] at hv2 hu1 ⊢
    replace X4 := Lib.hid hx4
    replace X2 := Lib.hid hx2
    replace X5 := Lib.hid hx5
    replace X7 := Lib.hid hx7
    replace HB := Lib.hid hbs
    replace V2 := Lib.hid hv2
    replace U1 := Lib.hid hu1
    clear ES hx4 hx2 hx5 hx7 hbs hv2 hu1 hne2 hne5 hne7 hle c4 l4 f4 V1
    obtain ⟨c5, l5⟩ := X5.cl
    obtain ⟨c7, l7⟩ := X7.cl
    refine wp_region_walk [(.read, 0), (.pure, 1), (.read, 2), (.ext, 3), (.ext, 4), (.ext, 5), (.fin, 6)] (by kernel_rfl) (by kernel_rfl) (allocRuns_of (by kernel_rfl)) (fun _ _ _ _ hd h => And.intro (hd.trans (And.left h)) (And.right h)) ?_
    refine Wk.out ?_
    repeat (first | (apply wk_skip; (rfl); (rfl); (rfl); (intro J hJ; go_simp; (with_reducible refine hJ _ ?_); clear hJ J)) | (apply wk_len; (rfl); (rfl); (rfl); (rfl); (exact (by kernel_rfl)); (intro J hJ; go_simp; (with_reducible refine hJ _ ?_); clear hJ J)) | (apply wk_pure; (rfl); (rfl); (intro J hJ; go_simp; (with_reducible refine hJ _ ?_); clear hJ J)) | (apply wk_load; (rfl); (rfl); (rfl); (rfl); (intro J hJ; go_simp; (with_reducible refine hJ _ ?_); clear hJ J; try go_simp)))
    repeat (first | (apply wk_skip; (rfl); (rfl); (rfl); (intro J hJ; go_simp; (with_reducible refine hJ _ ?_); clear hJ J)) | (apply wk_len; (rfl); (rfl); (rfl); (rfl); (exact (by kernel_rfl)); (intro J hJ; go_simp; (with_reducible refine hJ _ ?_); clear hJ J)) | (apply wk_pure; (rfl); (rfl); (intro J hJ; go_simp; (with_reducible refine hJ _ ?_); clear hJ J)) | (apply wk_load; (rfl); (rfl); (rfl); (rfl); (intro J hJ; go_simp; (with_reducible refine hJ _ ?_); clear hJ J; try go_simp)))
    refine wk_ext rfl rfl (fun wa1 ha1 J hJ => ?_)
    have hs1 : Below ws.heap.size ws wa1 := (by first | exact ha1 | exact belA)
    have hx1 : Below ws.heap.size ws wa1 := hs1
    go_simp
    refine (Value_ok c (by have := HAC.out; omega) wa1).mono ?_
    rintro e wb1 ⟨v, rfl, hb1, hv⟩
    refine hJ _ _ hb1 ?_
    have hy1 := Bt hx1 hb1
    obtain ⟨bS2, pS2, nS2, eS2, dS2, qS2, mS2, fS2, rfl, -⟩ := id hv; have S2 := Lib.hid hv; clear hv
    clear hJ J ha1 hb1 hs1 hx1
    repeat (first | (apply wk_skip; (rfl); (rfl); (rfl); (intro J hJ; go_simp; (with_reducible refine hJ _ ?_); clear hJ J)) | (apply wk_len; (rfl); (rfl); (rfl); (rfl); (exact (by kernel_rfl)); (intro J hJ; go_simp; (with_reducible refine hJ _ ?_); clear hJ J)) | (apply wk_pure; (rfl); (rfl); (intro J hJ; go_simp; (with_reducible refine hJ _ ?_); clear hJ J)) | (apply wk_load; (rfl); (rfl); (rfl); (rfl); (intro J hJ; go_simp; (with_reducible refine hJ _ ?_); clear hJ J; try go_simp)))
    refine wk_ext rfl rfl (fun wa2 ha2 J hJ => ?_)
    have hs2 : Below wb1.heap.size wb1 wa2 := (by first | exact ha2 | exact belA)
    have hx2 : Below ws.heap.size ws wa2 := Bt hy1 hs2
    go_simp
    refine (rN_raised c 2 (by have := HAC.out; omega) (by omega) _ wa2 (S2.out.later hs2)).mono ?_
    rintro e wb2 ⟨v, rfl, hb2, hv⟩
    refine hJ _ _ hb2 ?_
    have hy2 := Bt hx2 hb2
    clear S2; obtain ⟨bT2, pT2, nT2, eT2, dT2, qT2, mT2, fT2, rfl, -⟩ := id hv; have T2 := Lib.hid hv; clear hv
    clear hJ J ha2 hb2 hs2 hx2 hy1
    repeat (first | (apply wk_skip; (rfl); (rfl); (rfl); (intro J hJ; go_simp; (with_reducible refine hJ _ ?_); clear hJ J)) | (apply wk_len; (rfl); (rfl); (rfl); (rfl); (exact (by kernel_rfl)); (intro J hJ; go_simp; (with_reducible refine hJ _ ?_); clear hJ J)) | (apply wk_pure; (rfl); (rfl); (intro J hJ; go_simp; (with_reducible refine hJ _ ?_); clear hJ J)) | (apply wk_load; (rfl); (rfl); (rfl); (rfl); (intro J hJ; go_simp; (with_reducible refine hJ _ ?_); clear hJ J; try go_simp)))
    refine wk_ext rfl rfl (fun wa3 ha3 J hJ => ?_)
    have hs3 : Below wb2.heap.size wb2 wa3 := (by first | exact ha3 | exact belA)
    have hx3 : Below ws.heap.size ws wa3 := Bt hy2 hs3
    go_simp
    refine (verdigrisref02.Plus_ok _ _ _ _ wa3 (V2.out.later hx3) (T2.out.later hs3) ((sumQ_szq (okTo_le HO.out H8.out).2).mono (by omega)) ((okq_sz (rN_pow_ok (by have := HAC.out; omega) (by omega))).mono (by omega))).mono ?_
    rintro e wb3 ⟨v, rfl, hb3, hv⟩
    refine hJ _ _ hb3 ?_
    have hy3 := Bt hx3 hb3
    clear T2; rw [← sumQ_snoc, ← HT.out.2] at hv; obtain ⟨bU2, pU2, nU2, eU2, dU2, qU2, mU2, fU2, rfl, -⟩ := id hv; have U2 := Lib.hid hv; clear hv
    clear hJ J ha3 hb3 hs3 hx3 hy2
    refine wk_fin [_] rfl (fun wf2 hbf => ?_)
    have hyf := Bt hy3 hbf
    replace X2 := X2.bl hyf
    replace X4 := X4.bl hyf
    replace X5 := X5.bl hyf
    replace X7 := X7.bl hyf
    replace HB := Lib.hid (Bt HB.out hyf)
    replace U1 := Lib.hid (U1.out.later hyf)
    replace U2 := Lib.hid (U2.out.later hbf)
    clear hyf hy3 hbf c7 l7
    clear c5 l5
    obtain ⟨c5, l5, f5⟩ := X5.clf
    go_wp2_with fail
    have hne2 : w.heap.size ≠ g + 1 := by have := HG.out; omega
    have hne4 : g ≠ g + 1 := by omega
    have hle : w.heap.size ≤ g + 1 := by have := HG.out; omega
    go_roundw
    case rel =>
     exact ⟨k + 1, bU1, pU1, nU1, eU1, dU1, qU1, mU1, fU1, bU2, pU2, nU2, eU2, dU2, qU2, mU2, fU2, by omega, by go_num, HOK, Lib.hid (Ra.set4 U1.out X5.out (by decide) _ _ _ _), Lib.hid (Ra.set4 U2.out X5.out (by decide) _ _ _ _),
      Lib.hid ((((X4.out.setOther _ hne4).setOther _ hne4).setOther _ hne4).setOther _ hne4), Lib.hid ((((X5.out.set 0 _).set 1 _).set 2 _).set 3 _), Lib.hid ((((X2.out.setOther _ hne2).setOther _ hne2).setOther _ hne2).setOther _ hne2), Lib.hid ((((HB.out.setCell hle _).setCell hle _).setCell hle _).setCell hle _)⟩
    case measure => simp [intOf]; omega
   ·have ha := abE_no hbk
    rw [ha] at HA
    unfold bndV at HA
    simp only at HA
    have e := HZ.out
    rw [if_pos (HN.out hbk)] at e
    obtain ⟨⟨rfl, rfl⟩, rfl⟩ : (0 = z1 ∧ 0 = z2) ∧ 30 = z3 := by simpa using e
    clear hbk HN HY ha e HZ
    go_wp2_with fail
    refine (HA.out _).mono ?_
    rintro e w3 ⟨rfl, hb⟩
    replace X2 := X2.bl hb
    replace HB := Lib.hid (Bt HB.out hb)
    obtain ⟨c2, l2, f2'⟩ := X2.clf
    have x2 := X2.out
    have hbb := HB.out
    clear hb HA hc1 hc2
    go_wp2_with fail
    refine ret_ct rfl rfl boxA Tryz.underlying23 rfl (by kernel_rfl) ?_
    exact ⟨rfl, belA⟩
  ·obtain rfl : k = bs.length := by omega
   have hall := okTo_all HO.out
   obtain ⟨s1, s2⟩ := okTo_le HO.out H8.out
   have el1 : (bs.map blo).take bs.length = bs.map blo := List.take_of_length_le (by simp)
   have el2 : (bs.map bhi).take bs.length = bs.map bhi := List.take_of_length_le (by simp)
   rw [el1] at V1 s1
   rw [el2] at V2 s2
   have SA := Lib.hid (seek_sum s1)
   have SB := Lib.hid (seek_sum s2)
   have HM := Lib.hid (made_sum (bs.map blo) (bs.map bhi))
   have e := HZ.out
   rw [if_neg (by rw [hall]; simp), ← HM.out] at e
   have HE := Lib.hid e
   clear e hall s1 s2 el1 el2 HZ HM HO
   obtain ⟨c4, l4⟩ := X4.cl
   obtain ⟨c5, l5⟩ := X5.cl
   go_wp2_with fail
   refine wp_region_walk [(.read, 0), (.read, 2), (.ext, 1), (.ext, 3), (.ext, 4), (.pure, 5), (.pure, 6), (.fin, 7), (.fin, 8)] (by kernel_rfl) (by kernel_rfl) (allocRuns_of (by kernel_rfl)) (fun _ _ _ _ hd h => And.intro (hd.trans (And.left h)) (And.right h)) ?_
   refine Wk.out ?_
   repeat (first | (apply wk_skip; (rfl); (rfl); (rfl); (intro J hJ; go_simp; (with_reducible refine hJ _ ?_); clear hJ J)) | (apply wk_len; (rfl); (rfl); (rfl); (rfl); (exact (by kernel_rfl)); (intro J hJ; go_simp; (with_reducible refine hJ _ ?_); clear hJ J)) | (apply wk_pure; (rfl); (rfl); (intro J hJ; go_simp; (with_reducible refine hJ _ ?_); clear hJ J)) | (apply wk_load; (rfl); (rfl); (rfl); (rfl); (intro J hJ; go_simp; (with_reducible refine hJ _ ?_); clear hJ J; try go_simp)))
   repeat (first | (apply wk_skip; (rfl); (rfl); (rfl); (intro J hJ; go_simp; (with_reducible refine hJ _ ?_); clear hJ J)) | (apply wk_len; (rfl); (rfl); (rfl); (rfl); (exact (by kernel_rfl)); (intro J hJ; go_simp; (with_reducible refine hJ _ ?_); clear hJ J)) | (apply wk_pure; (rfl); (rfl); (intro J hJ; go_simp; (with_reducible refine hJ _ ?_); clear hJ J)) | (apply wk_load; (rfl); (rfl); (rfl); (rfl); (intro J hJ; go_simp; (with_reducible refine hJ _ ?_); clear hJ J; try go_simp)))
   refine wk_ext rfl rfl (fun wa1 ha1 J hJ => ?_)
   have hs1 : Below wr.heap.size wr wa1 := (by first | exact ha1 | exact belA)
   have hx1 : Below wr.heap.size wr wa1 := hs1
   go_simp
   refine (down_ok _ _ 2 _ wa1 (V1.out.later hs1) SA.out).mono ?_
   rintro e wb1 ⟨rfl, hb1⟩
   refine hJ _ _ hb1 ?_
   have hy1 := Bt hx1 hb1
   skip
   clear hJ J ha1 hb1 hs1 hx1
   repeat (first | (apply wk_skip; (rfl); (rfl); (rfl); (intro J hJ; go_simp; (with_reducible refine hJ _ ?_); clear hJ J)) | (apply wk_len; (rfl); (rfl); (rfl); (rfl); (exact (by kernel_rfl)); (intro J hJ; go_simp; (with_reducible refine hJ _ ?_); clear hJ J)) | (apply wk_pure; (rfl); (rfl); (intro J hJ; go_simp; (with_reducible refine hJ _ ?_); clear hJ J)) | (apply wk_load; (rfl); (rfl); (rfl); (rfl); (intro J hJ; go_simp; (with_reducible refine hJ _ ?_); clear hJ J; try go_simp)))
   refine wk_ext rfl rfl (fun wa2 ha2 J hJ => ?_)
   have hs2 : Below wb1.heap.size wb1 wa2 := (by first | exact ha2 | exact belA)
   have hx2 : Below wr.heap.size wr wa2 := Bt hy1 hs2
   go_simp
   refine (up_ok _ _ 2 _ wa2 (V2.out.later hx2) SB.out).mono ?_
   rintro e wb2 ⟨rfl, hb2⟩
   refine hJ _ _ hb2 ?_
   have hy2 := Bt hx2 hb2
   skip
   clear hJ J ha2 hb2 hs2 hx2 hy1
   generalize (min (nlo (bs.map blo)) 1000000000000000001) = ra at *
   generalize upN (sumQ (bs.map bhi)) 2 (nlo (bs.map bhi)) = rb at *
   have HMD := Lib.hid (fun W => made_ok (ra : Int) (rb : Int) W)
   rw [HE.out] at HMD
   unfold bndV at HMD
   simp only at HMD
   repeat (first | (apply wk_skip; (rfl); (rfl); (rfl); (intro J hJ; go_simp; (with_reducible refine hJ _ ?_); clear hJ J)) | (apply wk_len; (rfl); (rfl); (rfl); (rfl); (exact (by kernel_rfl)); (intro J hJ; go_simp; (with_reducible refine hJ _ ?_); clear hJ J)) | (apply wk_pure; (rfl); (rfl); (intro J hJ; go_simp; (with_reducible refine hJ _ ?_); clear hJ J)) | (apply wk_load; (rfl); (rfl); (rfl); (rfl); (intro J hJ; go_simp; (with_reducible refine hJ _ ?_); clear hJ J; try go_simp)))
   refine wk_ext rfl rfl (fun wa3 ha3 J hJ => ?_)
   have hs3 : Below wb2.heap.size wb2 wa3 := (by first | exact ha3 | exact belA)
   have hx3 : Below wr.heap.size wr wa3 := Bt hy2 hs3
   go_simp
   refine (HMD.out wa3).mono ?_
   rintro e wb3 ⟨rfl, hb3⟩
   refine hJ _ _ hb3 ?_
   have hy3 := Bt hx3 hb3
   skip
   clear hJ J ha3 hb3 hs3 hx3 hy2
   repeat (first | (apply wk_skip; (rfl); (rfl); (rfl); (intro J hJ; go_simp; (with_reducible refine hJ _ ?_); clear hJ J)) | (apply wk_len; (rfl); (rfl); (rfl); (rfl); (exact (by kernel_rfl)); (intro J hJ; go_simp; (with_reducible refine hJ _ ?_); clear hJ J)) | (apply wk_pure; (rfl); (rfl); (intro J hJ; go_simp; (with_reducible refine hJ _ ?_); clear hJ J)) | (apply wk_load; (rfl); (rfl); (rfl); (rfl); (intro J hJ; go_simp; (with_reducible refine hJ _ ?_); clear hJ J; try go_simp)))
   refine wk_fin [_, _] rfl (fun wf hbf => ?_)
   have hyf := Bt hy3 hbf
   replace X2 := X2.bl hyf
   replace HB := Lib.hid (Bt HB.out hyf)
   clear hyf hy3 hbf c4 l4 c5 l5
   obtain ⟨c2, l2, f2'⟩ := X2.clf
   have x2 := X2.out
   have hbb := HB.out
   go_wp2_with fail
   refine ret_ct rfl rfl boxA Tryz.underlying23 rfl (by kernel_rfl) ?_
   exact ⟨rfl, belA⟩
end Go.Proofs.verdigrisref04
namespace Go.Proofs.verdigrisref04
open Go Go.RowKit Go.SW Go.Num Go.Mem Go.Proofs Go.Dec Go.Fra Go.Proofs.band Go.Proofs.power
set_option maxRecDepth 10000 in
set_option maxHeartbeats 1000000 in
theorem Norm_len (a : Option Addr) (n cap : Nat) (k : Int) (h : n = 0 ∧ k = 2 ∨ 8 < n ∧ k = 3) (w : World) :
  Calls Tryz.prog 26 #[.slice a n cap] w (fun e w' => e = .returned (bndV ((0, 0), k)) ∧ Below w.heap.size w w') := by
 unfold bndV
 obtain ⟨wx, EW, hz, X2⟩ := al1 w #[.int .i64 0, .int .i64 0] 23
 obtain ⟨c2, l2, f2⟩ := X2.clf
 have x2 := X2.out
 rcases h with ⟨rfl, rfl⟩ | ⟨h, rfl⟩
 ·go_enter Tryz.func26, Tryz.ntmps26
  go_wp2_with fail
  refine ret_ct rfl rfl boxA Tryz.underlying23 rfl (by kernel_rfl) ?_
  exact ⟨rfl, belA⟩
 ·have q1 : ¬ (n : Int) = 0 := by omega
  have q2 : (8 : Int) < (n : Int) := by omega
  clear h
  go_enter Tryz.func26, Tryz.ntmps26
  go_wp2_with fail
  refine ret_ct rfl rfl boxA Tryz.underlying23 rfl (by kernel_rfl) ?_
  exact ⟨rfl, belA⟩
theorem Norm_ok (v : Value) (T : TypeId) (bs : List (Int × Int)) (w : World) (hv : Bds w T v bs) :
  Calls Tryz.prog 26 #[v] w (fun e w' => e = .returned (bndV (nrmE bs)) ∧ Below w.heap.size w w') := by
 obtain ⟨a, cap, rfl, hc1, hc2, hread⟩ := hv.read
 by_cases h0 : bs.length = 0
 ·have e : nrmE bs = ((0, 0), 2) := by unfold nrmE; rw [if_pos h0]
  rw [e]
  exact Norm_len a _ cap 2 (.inl ⟨h0, rfl⟩) w
 ·by_cases h8 : 8 < bs.length
  ·have e : nrmE bs = ((0, 0), 3) := by unfold nrmE; rw [if_neg h0, if_pos h8]
   rw [e]
   exact Norm_len a _ cap 3 (.inr ⟨h8, rfl⟩) w
  ·exact Norm_main a cap bs (by omega) (by omega) hc1 hc2 w hread
end Go.Proofs.verdigrisref04
namespace Go.Fra
open Go Go.RowKit Go.SW Go.Num Go.Mem Go.Proofs
/-- The cells of bands. -/
def bcs (l : List (Int × Int)) : List Value := l.flatMap fun b => [.int .i64 b.1, .int .i64 b.2]
theorem bcs_length (l : List (Int × Int)) : (bcs l).length = l.length * 2 := by
 induction l with
 | nil => rfl
 | cons b t ih =>
  have : bcs (b :: t) = [.int .i64 b.1, .int .i64 b.2] ++ bcs t := rfl
  rw [this, List.length_append, ih, List.length_cons, List.length_cons, List.length_cons, List.length_nil]
  omega
theorem bcs_append (l m : List (Int × Int)) : bcs (l ++ m) = bcs l ++ bcs m := by unfold bcs; rw [List.flatMap_append]
theorem bcs_at {l : List (Int × Int)} : ∀ {i : Nat} (h : i < l.length), (bcs l)[i * 2]? = some (.int .i64 l[i].1) ∧ (bcs l)[i * 2 + 1]? = some (.int .i64 l[i].2) := by
 induction l with
 | nil => intro i h; cases h
 | cons b t ih =>
  intro i h
  have e : bcs (b :: t) = .int .i64 b.1 :: .int .i64 b.2 :: bcs t := rfl
  rw [e]
  cases i with
  | zero => exact ⟨rfl, rfl⟩
  | succ i =>
   have := ih (i := i) (by simpa using h)
   have e1 : (i + 1) * 2 = i * 2 + 1 + 1 := by omega
   have e2 : (i + 1) * 2 + 1 = i * 2 + 1 + 1 + 1 := by omega
   rw [e1, List.getElem?_cons_succ, List.getElem?_cons_succ, List.getElem?_cons_succ, List.getElem?_cons_succ]
   exact this
theorem bcs_one (l : List (Int × Int)) : ∀ u ∈ bcs l, u.oneCell' = true := fun u hu => by
 unfold bcs at hu
 obtain ⟨b, -, hb⟩ := List.mem_flatMap.1 hu
 rcases List.mem_cons.1 hb with rfl | hb
 ·rfl
 ·rw [List.mem_singleton.1 hb]
  rfl
/-- A slice of the call's own that holds the bands l. -/
def Own (w : World) (B : Nat) (T : TypeId) (v : Value) (l : List (Int × Int)) : Prop := w.ownsRow B T 2 v l.length (bcs l)
theorem Own.nil (w : World) (B : Nat) (T : TypeId) : Own w B T (.slice none 0 0) [] := World.ownsRow_nil w B T 2
theorem Own.cases {w : World} {B : Nat} {T : TypeId} {v : Value} {l : List (Int × Int)} (h : Own w B T v l) :
  (v = .slice none 0 0 ∧ l = []) ∨ ∃ g cap cur, v = .slice (some ⟨g, 0, none⟩) l.length cap ∧ B ≤ g ∧ Box w g cur T ∧ l.length ≤ cap ∧ cap ≤ maxLen ∧ cur.size = cap * 2 ∧ cur.toList.take (l.length * 2) = bcs l := by
 rcases h.2 with ⟨h1, h2⟩ | ⟨g, cap, cur, h1, h2, h3, h4⟩
 ·exact .inl ⟨h1, List.length_eq_zero_iff.1 h2⟩
 ·exact .inr ⟨g, cap, cur, h1, h2, h3, h4⟩
theorem Own.mk {w : World} {B g cap : Nat} {T : TypeId} {l : List (Int × Int)} {cur : Array Value} (h1 : B ≤ g) (h2 : Box w g cur T) (h3 : l.length ≤ cap) (h4 : cap ≤ maxLen) (h5 : cur.size = cap * 2) (h6 : cur.toList.take (l.length * 2) = bcs l) : Own w B T (.slice (some ⟨g, 0, none⟩) l.length cap) l :=
 ⟨bcs_length l, .inr ⟨g, cap, cur, rfl, h1, h2, h3, h4, h5, h6⟩⟩
theorem Own.slice {w : World} {B : Nat} {T : TypeId} {v : Value} {l : List (Int × Int)} (h : Own w B T v l) : ∃ a c, v = .slice a l.length c := by
 rcases h.cases with ⟨rfl, rfl⟩ | ⟨g, cap, cur, rfl, -⟩
 ·exact ⟨_, _, rfl⟩
 ·exact ⟨_, _, rfl⟩
theorem Own.bds {w : World} {B : Nat} {T : TypeId} {v : Value} {l : List (Int × Int)} (h : Own w B T v l) : Bds w T v l := by
 rcases h.cases with ⟨rfl, rfl⟩ | ⟨g, cap, cur, rfl, h1, h2, h3, h4, h5, h6⟩
 ·exact ⟨none, 0, rfl, Nat.le_refl _, by omega, fun _ h => by cases h⟩
 ·unfold maxLen at h4
  refine Bds.of_box h2 rfl h3 h4 fun i hi => ?_
  have k := bcs_at hi
  rw [← h6, List.getElem?_take_of_lt (by omega), List.getElem?_take_of_lt (by omega), Array.getElem?_toList, Array.getElem?_toList] at k
  exact k
theorem Own.later {w w' : World} {B : Nat} {T : TypeId} {v : Value} {l : List (Int × Int)} (h : Own w B T v l) (hb : Below w.heap.size w w') : Own w' B T v l := by
 rcases h.cases with ⟨rfl, rfl⟩ | ⟨g, cap, cur, rfl, h1, h2, h3, h4, h5, h6⟩
 ·exact Own.nil _ _ _
 ·exact Own.mk h1 (h2.later hb) h3 h4 h5 h6
/-- Another row has grown. -/
theorem Own.kept {w w' : World} {B : Nat} {T : TypeId} {v : Value} {l : List (Int × Int)} {row : Option Nat} (h : Own w B T v l) (hg : w.grownBy w' row) (hne : ∀ r, v.ownBlock = some r → row ≠ some r) : Own w' B T v l := by
 rcases h.cases with ⟨rfl, rfl⟩ | ⟨g, cap, cur, rfl, h1, h2, h3, h4, h5, h6⟩
 ·exact Own.nil _ _ _
 ·refine Own.mk h1 ?_ h3 h4 h5 h6
  have := hg.block g h2.lt (fun e => hne g rfl e.symm)
  unfold Box at *
  rw [this]
  exact h2
theorem Own.lt {w : World} {B : Nat} {T : TypeId} {v : Value} {l : List (Int × Int)} (h : Own w B T v l) : ∀ r, v.ownBlock = some r → B ≤ r ∧ r < w.heap.size := fun r hr => by
 rcases h.cases with ⟨rfl, rfl⟩ | ⟨g, cap, cur, rfl, h1, h2, -⟩
 ·cases hr
 ·cases hr
  exact ⟨h1, h2.lt⟩
theorem Box.grown {w w' : World} {b : Nat} {cs : Array Value} {T : TypeId} {row : Option Nat} (h : Box w b cs T) (hg : w.grownBy w' row) (hne : row ≠ some b) : Box w' b cs T := by
 have := hg.block b h.lt (fun e => hne e.symm)
 unfold Box at *
 rw [this]
 exact h
/-- The cells of a slice of bands. -/
theorem Bds.src {w : World} {T : TypeId} {ad : Addr} {n c : Nat} {l : List (Int × Int)} (h : Bds w T (.slice (some ad) n c) l) : n = l.length ∧ ∀ j u, (bcs l)[j]? = some u → w.cell? (ad.add j) = some u := by
 obtain ⟨a, cap, h1, h2, h3, h4⟩ := h
 cases h1
 refine ⟨rfl, fun j u hu => ?_⟩
 have hj : j < l.length * 2 := by
  have := (List.getElem?_eq_some_iff.1 hu).1
  rwa [bcs_length] at this
 have hi : j / 2 < l.length := by omega
 have k := bcs_at hi
 obtain ⟨b, off, e, -, m⟩ := h4 _ hi
 cases e
 rw [Addr.add_lit]
 rcases Nat.mod_two_eq_zero_or_one j with e | e
 ·have e2 : j / 2 * 2 = j := by omega
  rw [e2] at k m
  rw [← hu, k.1]
  exact m.1
 ·have e2 : j / 2 * 2 + 1 = j := by omega
  have e3 : off + j / 2 * 2 + 1 = off + j := by omega
  rw [e2] at k
  rw [e3] at m
  rw [← hu, k.2]
  exact m.2
theorem app_own (ty : TypeId) {w : World} {B : Nat} {v : Value} {l : List (Int × Int)} (hO : Own w B 23 v l) {ad : Addr} {n c : Nat} {m : List (Int × Int)} {T : TypeId} (hS : Bds w T (.slice (some ad) n c) m) (hl : l.length + m.length ≤ 1000) (hB : B ≤ w.heap.size) :
  ∃ v' w', (Builtin.append_ #[55, 55] ty #[v, .slice (some ad) n c]).run Tryz.prog w = .ok v' w' ∧ Own w' B 23 v' (l ++ m) ∧ w.grownBy w' v.ownBlock ∧ (v'.ownBlock = v.ownBlock ∨ v'.ownBlock = some w.heap.size) := by
 obtain ⟨i0, hi, hz0, hz1, hz2⟩ := info_parts infoB
 obtain ⟨rfl, hc⟩ := hS.src
 obtain ⟨v', w', h1, h2, h3, -, h4⟩ := run_append_own_at (P := Tryz.prog) w B 55 ty 23 i0 (.agg #[.int .i64 0, .int .i64 0]) 2 16 Tryz.underlying55 hi hz0 hz1 hz2 rfl (by decide) v l.length (bcs l) hO ad m.length c (bcs m) (bcs_length m) hc (bcs_one m) (by unfold maxLen; omega) (by omega) hB
 refine ⟨v', w', h1, ?_, h3, h4⟩
 unfold Own
 rw [List.length_append, bcs_append]
 exact h2
/-- append as one operation of a region. -/
theorem wp_append {o : Oper} {a : Act} {w : World} {K : Act → World → Prop} {Q : Exit → Act → World → Prop} (s x : Operand) (ho : o.op = .call { callee := .builtin .append, args := #[s, x], argTypes := #[55, 55] })
  {B : Nat} {v : Value} {l : List (Int × Int)} (hs : a.eval s = v) (hO : Own w B 23 v l) {ad : Addr} {n c : Nat} {m : List (Int × Int)} {T : TypeId} (hx : a.eval x = .slice (some ad) n c) (hS : Bds w T (.slice (some ad) n c) m) (hl : l.length + m.length ≤ 1000) (hB : B ≤ w.heap.size)
  (h : ∀ v' w', Own w' B 23 v' (l ++ m) → w.grownBy w' v.ownBlock → (v'.ownBlock = v.ownBlock ∨ v'.ownBlock = some w.heap.size) → K (a.put o.dst v') w') : o.wp Tryz.prog a w K Q := by
 obtain ⟨v', w', hr, h1, h2, h3⟩ := app_own o.type hO hS hl hB
 unfold Oper.wp execOp
 simp only [ho, resolve, invoke, builtin, Sem.run_bind, Sem.run_pure, Result.andThen_ok, List.map_toArray, List.map_cons, List.map_nil, hs, hx, hr]
 exact h _ _ h1 h2 h3
theorem wpList_append {ops : Array Oper} {rest : List Oper} {o : Oper} {a : Act} {w : World} {Q : Exit → Act → World → Prop} (hgd : o.guard = none) (s x : Operand) (ho : o.op = .call { callee := .builtin .append, args := #[s, x], argTypes := #[55, 55] })
  {B : Nat} {v : Value} {l : List (Int × Int)} (hs : a.eval s = v) (hO : Own w B 23 v l) {ad : Addr} {n c : Nat} {m : List (Int × Int)} {T : TypeId} (hx : a.eval x = .slice (some ad) n c) (hS : Bds w T (.slice (some ad) n c) m) (hl : l.length + m.length ≤ 1000) (hB : B ≤ w.heap.size)
  (h : ∀ v' w', Own w' B 23 v' (l ++ m) → w.grownBy w' v.ownBlock → (v'.ownBlock = v.ownBlock ∨ v'.ownBlock = some w.heap.size) → wpList Tryz.prog ops Q rest (a.put o.dst v') w') : wpList Tryz.prog ops Q (o :: rest) a w :=
 wpList_plain hgd fun _ hK => wp_append s x ho hs hO hx hS hl hB fun v' w' h1 h2 h3 => hK _ _ (h v' w' h1 h2 h3)
end Go.Fra
namespace Go.Fra
open Go Go.RowKit Go.SW Go.Num Go.Mem Go.Proofs
theorem Bds.src_of {w : World} {T : TypeId} {v : Value} {m : List (Int × Int)} (h : Bds w T v m) : Src Tryz.prog 2 55 v m.length (bcs m) w := by
 obtain ⟨a, cap, rfl, h1, h2, h3⟩ := id h
 cases a with
 | none =>
  have : m.length = 0 := by
   rcases Nat.eq_zero_or_pos m.length with h | h
   ·exact h
   ·obtain ⟨b, off, e, -⟩ := h3 0 h
    cases e
  have e := List.length_eq_zero_iff.1 this
  subst e
  exact Src.ofNil w Tryz.underlying55 cap
 | some ad =>
  obtain ⟨-, hc⟩ := h.src
  exact Src.ofSlice w Tryz.underlying55 ad m.length cap (bcs m) (bcs_length m) hc (bcs_one m)
theorem Box.sets {b : Nat} {T : TypeId} : ∀ (vs : List Value) (o : Nat) (w : World) (cs : Array Value), Box w b cs T → ∃ cs' : Array Value, Box (w.setCells b o vs) b cs' T ∧ cs'.size = cs.size ∧ (∀ i, i < o ∨ o + vs.length ≤ i → cs'[i]? = cs[i]?) ∧ ∀ j, j < vs.length → o + j < cs.size → cs'[o + j]? = vs[j]?
 | [], o, w, cs, h => ⟨cs, h, rfl, fun _ _ => rfl, fun j hj => by cases hj⟩
 | v :: vs, o, w, cs, h => by
  obtain ⟨cs', h1, h2, h3, h4⟩ := Box.sets vs (o + 1) _ _ (h.set o v)
  rw [Array.size_setIfInBounds] at h2
  refine ⟨cs', h1, h2, fun i hi => ?_, fun j hj hs => ?_⟩
  ·rw [h3 i (by simp only [List.length_cons] at hi; omega), Array.getElem?_setIfInBounds, if_neg (by simp only [List.length_cons] at hi; omega)]
  ·cases j with
   | zero => rw [Nat.add_zero, h3 o (.inl (by omega)), Array.getElem?_setIfInBounds]; simp; omega
   | succ j =>
    have := h4 j (by simpa using hj) (by rw [Array.size_setIfInBounds]; omega)
    rw [show o + 1 + j = o + (j + 1) by omega] at this
    rw [this, List.getElem?_cons_succ]
theorem below_setCells {B : Nat} {w0 : World} {b : Nat} (hB : B ≤ b) : ∀ (vs : List Value) (o : Nat) (w : World), Below B w0 w → Below B w0 (w.setCells b o vs)
 | [], _, _, h => h
 | v :: vs, o, w, h => below_setCells hB vs (o + 1) _ (h.setCell hB v)
theorem grown_setCell (w : World) (b o : Nat) (v : Value) : w.grownBy (w.setCell ⟨b, o, none⟩ v) (some b) :=
 ⟨rfl, rfl, rfl, ((Below.refl 0 w).setCell (Nat.zero_le _) v).size, fun k _ hk => Below.heap_setCell _ _ _ k (fun e => hk (by rw [e]))⟩
theorem grown_setCells {b : Nat} : ∀ (vs : List Value) (o : Nat) (w : World), w.grownBy (w.setCells b o vs) (some b)
 | [], _, w => World.grownBy.refl w _
 | v :: vs, o, w => (grown_setCell w b o v).trans (grown_setCells vs (o + 1) _)
theorem app_keep (ty : TypeId) {w : World} {B : Nat} {v : Value} {l : List (Int × Int)} (hO : Own w B 23 v l) {x : Value} {m : List (Int × Int)} {T : TypeId} (hS : Bds w T x m) (hl : l.length + m.length ≤ 1000) (hB : B ≤ w.heap.size) :
  ∃ v' w', (Builtin.append_ #[55, 55] ty #[v, x]).run Tryz.prog w = .ok v' w' ∧ Bds w' 23 v' (l ++ m) ∧ Bds w' 23 v l ∧ Below B w w' ∧ w.grownBy w' v.ownBlock := by
 obtain ⟨i0, hi, hz0, hz1, hz2⟩ := info_parts infoB
 have hs := hS.src_of
 rw [← hz1] at hs
 have grow : ∀ (base : Option Addr) (cap : Nat), v = .slice base l.length cap → (Builtin.firstCells i0.size l.length (.slice base l.length cap)).run Tryz.prog w.drew = .ok (bcs l).toArray w.drew → cap < l.length + m.length → cap ≤ 1000000 →
   ∃ v' w', (Builtin.append_ #[55, 55] ty #[v, x]).run Tryz.prog w = .ok v' w' ∧ Bds w' 23 v' (l ++ m) ∧ Bds w' 23 v l ∧ Below B w w' ∧ w.grownBy w' v.ownBlock := by
  intro base cap hv hold hcap hcap2
  subst hv
  refine ⟨_, _, run_append_grow_src w 55 55 ty 23 i0 (.agg #[.int .i64 0, .int .i64 0]) Tryz.underlying55 hi hz0 base l.length cap (bcs l) hold x m.length (bcs m) hs hcap (by omega) ?_, ?_, ?_, ?_, ?_⟩
  ·rw [hz2]
   have := growslice_fits_wide (need := l.length + m.length) (old := cap) (bytes := 16) (by omega) (by omega)
   omega
  ·have := Own.mk (B := 0) (g := w.heap.size) (cap := grownCap w (l.length + m.length) cap 23) (l := l ++ m) (Nat.zero_le _) (Box.new w.drew ((bcs l ++ bcs m).toArray ++ Builtin.zeroCells (Value.agg #[.int .i64 0, .int .i64 0]).cells (grownCap w (l.length + m.length) cap 23 - (l.length + m.length))) 23) (by rw [List.length_append]; exact grownCap_ge _ _ _ _) (grownCap_le_maxLen _ _ _ _ (by unfold maxLen; omega)) ?_ ?_
   ·rw [List.length_append] at this
    exact this.bds
   ·have := grownCap_ge w (l.length + m.length) cap 23
    rw [Array.size_append, size_zeroCells, show (Value.agg #[.int .i64 0, .int .i64 0]).cells.size = 2 from rfl, List.size_toArray, List.length_append, bcs_length, bcs_length]
    omega
   ·rw [bcs_append, Array.toList_append, List.take_append_of_le_length (by simp [bcs_length]; omega), List.take_of_length_le (by simp [bcs_length]; omega)]
  ·exact (hO.later (belA (B := w.heap.size) (h := ((Below.refl w.heap.size w).drew).alloc (Nat.le_refl _) _))).bds
  ·exact ((Below.refl B w).drew).alloc hB _
  ·exact ⟨rfl, rfl, rfl, by simp, fun k hk _ => heap_alloc_old w.drew _ hk⟩
 rcases hO.cases with ⟨rfl, rfl⟩ | ⟨g, cap, cur, rfl, h1, h2, h3, h4, h5, h6⟩
 ·rcases Nat.eq_zero_or_pos m.length with h0 | h0
  ·have e := List.length_eq_zero_iff.1 h0
   subst e
   refine ⟨.slice none 0 0, w, ?_, (Own.nil w B _).bds, (Own.nil w B _).bds, Below.refl _ _, World.grownBy.refl _ _⟩
   have hcs : (Builtin.firstCells i0.size 0 x).run Tryz.prog w = .ok (bcs []).toArray w := hs.cells
   rcases hs.kind with ⟨e', hk⟩ | hk <;> simp [Builtin.append_, run_underlying Tryz.underlying55, run_underlying hk, sizeOf, typeInfo, hi, hs.len, hcs]
  ·exact grow none 0 rfl (run_firstCells_none w.drew _ 0 0 0) (by simpa using h0) (by omega)
 ·have hold : ∀ W : World, W.heap = w.heap → (Builtin.firstCells i0.size l.length (.slice (some ⟨g, 0, none⟩) l.length cap)).run Tryz.prog W = .ok (bcs l).toArray W := fun W hW => by
   refine run_firstCells_some W i0.size l.length ⟨g, 0, none⟩ l.length cap (bcs l) (by rw [hz1, bcs_length]) fun j u hu => ?_
   have hx : Box W g cur 23 := by unfold Box at *; rw [hW]; exact h2
   have hj := (List.getElem?_eq_some_iff.1 hu).1
   rw [bcs_length] at hj
   rw [Addr.add_lit, hx.cell, Nat.zero_add, ← hu, ← h6, List.getElem?_take_of_lt hj, Array.getElem?_toList]
  rcases Nat.lt_or_ge cap (l.length + m.length) with hc | hc
  ·exact grow _ cap rfl (hold w.drew rfl) hc (by omega)
  ·have hroom := run_append_room_src w 55 55 ty 23 i0 Tryz.underlying55 hi g 0 l.length cap x m.length (bcs m) hs hc (fun j hj => ?_) (fun j hj => h2.free _)
   ·rw [hz1, Nat.zero_add] at hroom
    obtain ⟨cs', k1, k2, k3, k4⟩ := Box.sets (bcs m) (l.length * 2) w cur h2
    have hbe := below_setCells (B := B) h1 (bcs m) (l.length * 2) w (Below.refl _ _)
    have pre : cs'.toList.take (l.length * 2) = bcs l := by
     rw [← h6]
     refine List.ext_getElem? fun i => ?_
     rw [List.getElem?_take, List.getElem?_take]
     split
     ·rename_i h
      rw [Array.getElem?_toList, Array.getElem?_toList, k3 i (.inl h)]
     ·rfl
    refine ⟨_, _, hroom, ?_, (Own.mk h1 k1 h3 h4 (by rw [k2, h5]) pre).bds, hbe, grown_setCells (bcs m) (l.length * 2) w⟩
    have := Own.mk (l := l ++ m) h1 k1 (by rw [List.length_append]; exact hc) h4 (by rw [k2, h5]) (by
     rw [List.length_append, bcs_append]
     refine List.ext_getElem? fun i => ?_
     rw [List.getElem?_take]
     rcases Nat.lt_or_ge i (l.length * 2) with hi1 | hi1
     ·rw [if_pos (by omega), List.getElem?_append_left (by rw [bcs_length]; exact hi1), ← pre, List.getElem?_take_of_lt hi1]
     ·rw [List.getElem?_append_right (by rw [bcs_length]; exact hi1), bcs_length]
      rcases Nat.lt_or_ge i ((l.length + m.length) * 2) with hi2 | hi2
      ·rw [if_pos hi2, Array.getElem?_toList]
       have := k4 (i - l.length * 2) (by rw [bcs_length]; omega) (by omega)
       have e : l.length * 2 + (i - l.length * 2) = i := by omega
       rw [e] at this
       exact this
      ·rw [if_neg (by omega), List.getElem?_eq_none (by rw [bcs_length]; omega)])
    rw [List.length_append] at this
    exact this.bds
   ·rw [h2.cell, hz1, Nat.zero_add]
    rw [bcs_length] at hj
    rw [Array.getElem?_eq_getElem (by omega)]
    rfl
/-- The slice v reads as the drafts l. -/
def Drs (w : World) (v : Value) (l : List (Int × Int)) : Prop :=
 ∃ a cap, v = .slice a l.length cap ∧ l.length ≤ cap ∧ cap ≤ 9223372036854775807 ∧ ∀ k (_ : k < l.length), ∃ b off, a = some ⟨b, off, none⟩ ∧ b < w.heap.size ∧ w.cell? ⟨b, off + k * 2, none⟩ = some (.int .i64 l[k].1) ∧ w.cell? ⟨b, off + k * 2 + 1, none⟩ = some (.int .u32 l[k].2) ∧ 0 ≤ l[k].2 ∧ l[k].2 ≤ 4294967295
/-- The first of the bands. -/
theorem bds_take {w : World} {T : TypeId} {a : Option Addr} {n c : Nat} {l : List (Int × Int)} (h : Bds w T (.slice a n c) l) {k : Nat} (hk : k ≤ n) : Bds w T (.slice a k c) (l.take k) := by
 obtain ⟨a', cap, e, h1, h2, h3⟩ := h
 cases e
 have hl : (l.take k).length = k := by rw [List.length_take]; omega
 refine ⟨a, c, by rw [hl], by omega, h2, fun i hi => ?_⟩
 rw [hl] at hi
 rw [List.getElem_take]
 exact h3 i (by omega)
theorem drs_take {w : World} {a : Option Addr} {n c : Nat} {l : List (Int × Int)} (h : Drs w (.slice a n c) l) {k : Nat} (hk : k ≤ n) : Drs w (.slice a k c) (l.take k) := by
 obtain ⟨a', cap, e, h1, h2, h3⟩ := h
 cases e
 have hl : (l.take k).length = k := by rw [List.length_take]; omega
 refine ⟨a, c, by rw [hl], by omega, h2, fun i hi => ?_⟩
 rw [hl] at hi
 rw [List.getElem_take]
 exact h3 i (by omega)
theorem Drs.later {w w' : World} {v : Value} {l : List (Int × Int)} (h : Drs w v l) (hb : Below w.heap.size w w') : Drs w' v l := by
 obtain ⟨a, cap, h1, h2, h3, h4⟩ := h
 refine ⟨a, cap, h1, h2, h3, fun k hk => ?_⟩
 obtain ⟨b, off, h5, h6, h7, h8, h9⟩ := h4 k hk
 exact ⟨b, off, h5, Nat.lt_of_lt_of_le h6 hb.size, (hb.cell (p := ⟨b, off + k * 2, none⟩) h6).trans h7, (hb.cell (p := ⟨b, off + k * 2 + 1, none⟩) h6).trans h8, h9⟩
theorem drs_at {w : World} {a : Option Addr} {n c : Nat} {l : List (Int × Int)} (h : Drs w (.slice a n c) l) (hl : l.length = n) (k : Nat) (hk : k < n) :
  ∃ b off x y, a = some ⟨b, off, none⟩ ∧ b < w.heap.size ∧ w.cell? ⟨b, off + k * 2, none⟩ = some (.int .i64 x) ∧ w.cell? ⟨b, off + k * 2 + 1, none⟩ = some (.int .u32 y) ∧ 0 ≤ y ∧ y ≤ 4294967295 := by
 obtain ⟨a', cap, e, h1, h2, h3⟩ := h
 cases e
 obtain ⟨b, off, h4⟩ := h3 k hk
 exact ⟨b, off, _, _, h4⟩
theorem sliceTo (t e : TypeId) (ht : Tryz.prog.underlying t = some (.slice e)) (hs : ∀ W, (sizeOf e).run Tryz.prog W = .ok 2 W) (a : Option Addr) (n c m : Nat) (hm : m ≤ c) (W : World) :
  (Instr.sliceAt t (.slice a n c) none (some (.int .i64 (m : Int))) none).run Tryz.prog W = .ok (.slice a m c) W := by
 have he : Tryz.prog.elem t = e := by simp [Program.elem, ht]
 rw [run_sliceAt_slice (h := by rw [he]; exact ht), run_slice_h (ht := by rw [he]; exact ht) (h0 := by omega) (h2 := by omega), he, hs]
 simp only [Result.andThen, sliced, Nat.sub_zero, Int.toNat_natCast]
 split
 ·rfl
 ·cases a
  ·rfl
  ·rename_i ad
   simp [Addr.add]
end Go.Fra
namespace Go.SW
open Go Go.RowKit
variable {P : Program} {ops : Array Oper} {Q : Exit → Act → World → Prop}
/-- Operation y waits for x too. -/
def addL (x y : Nat) : Nat → List Oper → List Oper
 | _, [] => []
 | k, o :: l => (match k.beq y with
  | true => ⟨o.dst, o.op, o.type, o.pos, o.after.push ⟨x, .chain⟩, o.guard⟩
  | false => o) :: addL x y (k + 1) l
def addE (x y : Nat) (ops : Array Oper) : Array Oper := (addL x y 0 ops.toList).toArray
def wait (x : Nat) (o : Oper) : Oper := ⟨o.dst, o.op, o.type, o.pos, o.after.push ⟨x, .chain⟩, o.guard⟩
theorem addL_get (x y : Nat) : ∀ (l : List Oper) (k i : Nat), (addL x y k l)[i]? = (l[i]?).map fun o => if k + i = y then wait x o else o
 | [], _, _ => by simp [addL]
 | o :: l, k, 0 => by
  unfold addL
  rw [List.getElem?_cons_zero, List.getElem?_cons_zero]
  cases h : k.beq y with
  | true => rw [Nat.eq_of_beq_eq_true h]; simp [wait]
  | false =>
   have := Nat.ne_of_beq_eq_false h
   simp [this]
 | o :: l, k, i + 1 => by
  unfold addL
  rw [List.getElem?_cons_succ, List.getElem?_cons_succ, addL_get x y l (k + 1) i]
  have : k + 1 + i = k + (i + 1) := by omega
  rw [this]
theorem addE_get (x y i : Nat) (ops : Array Oper) : (addE x y ops)[i]? = (ops[i]?).map fun o => if i = y then wait x o else o := by
 unfold addE
 rw [List.getElem?_toArray, addL_get, Nat.zero_add, Array.getElem?_toList]
theorem addL_length (x y : Nat) : ∀ (l : List Oper) (k : Nat), (addL x y k l).length = l.length
 | [], _ => rfl
 | o :: l, k => by unfold addL; rw [List.length_cons, List.length_cons, addL_length x y l]
theorem addE_size (x y : Nat) (ops : Array Oper) : (addE x y ops).size = ops.size := by
 unfold addE
 rw [List.size_toArray, addL_length, Array.length_toList]
theorem addE_yielded (x y : Nat) (tmps : Array Value) (g : Nat) : yielded (addE x y ops) tmps g = yielded ops tmps g := by
 unfold yielded
 rw [addE_get]
 cases ops[g]? with
 | none => rfl
 | some o =>
  have e : (if g = y then wait x o else o).dst = o.dst := by split <;> rfl
  simp only [Option.map_some, Option.bind_some, e]
theorem addE_wpOps (x y : Nat) : ∀ (l : List Nat) (a : Act) (w : World), wpOps P (addE x y ops) Q l a w → wpOps P ops Q l a w
 | [], _, _, h => h
 | i :: l, a, w, h => by
  have ih := addE_wpOps x y l
  unfold wpOps at h ⊢
  rw [addE_get] at h
  have hy : yielded (addE x y ops) a.tmps = yielded ops a.tmps := funext fun g => addE_yielded x y _ g
  rw [hy] at h
  cases ho : ops[i]? with
  | none =>
   simp only [ho, Option.map_none] at h ⊢
   exact ih _ _ h
  | some o =>
   simp only [ho, Option.map_some] at h ⊢
   by_cases hi : i = y
   ·simp only [hi, if_true] at h
    have e1 : Region.wanted (wait x o) (yielded ops a.tmps) = Region.wanted o (yielded ops a.tmps) := rfl
    rw [e1] at h
    split
    ·rename_i hw
     simp only [hw, if_true] at h
     rcases h with h | h
     ·exact .inl (Oper.wp_mono ih h)
     ·exact .inr h
    ·rename_i hw
     simp only [hw, if_false, Bool.false_eq_true] at h
     exact ih _ _ h
   ·simp only [hi, if_false] at h
    split
    ·rename_i hw
     simp only [hw, if_true] at h
     rcases h with h | h
     ·exact .inl (Oper.wp_mono ih h)
     ·exact .inr h
    ·rename_i hw
     simp only [hw, if_false, Bool.false_eq_true] at h
     exact ih _ _ h
theorem ready_of {x y i : Nat} {listed : Array Bool} (h : i ∈ Region.ready .any ops listed) (hy : i = y → listed.getD x false = true) : i ∈ Region.ready .any (addE x y ops) listed := by
 obtain ⟨h1, o, h2, h3⟩ := mem_ready.1 h
 refine mem_ready.2 ⟨h1, _, by rw [addE_get, h2]; rfl, fun e he hb => ?_⟩
 split at he
 ·rename_i hi
  rcases Array.mem_push.1 he with he | he
  ·exact h3 e he hb
  ·rw [he]
   exact hy hi
 ·exact h3 e he hb
theorem ready_to {x y i : Nat} {listed : Array Bool} (h : i ∈ Region.ready .any (addE x y ops) listed) : i ∈ Region.ready .any ops listed := by
 obtain ⟨h1, o', h2, h3⟩ := mem_ready.1 h
 rw [addE_get] at h2
 cases ho : ops[i]? with
 | none => rw [ho] at h2; cases h2
 | some o =>
  rw [ho, Option.map_some, Option.some.injEq] at h2
  refine mem_ready.2 ⟨h1, o, ho, fun e he hb => h3 e ?_ hb⟩
  rw [← h2]
  split
  ·exact Array.mem_push.2 (.inl he)
  ·exact he
theorem go_pick {i fuel : Nat} {listed : Array Bool} (h : i ∈ Region.ready .any ops listed) (t : Nat) :
  ∃ t', Region.linearise.go .any ops (fuel + 1) t' listed [] = i :: Region.linearise.go .any ops fuel t (listed.setIfInBounds i true) [] := by
 obtain ⟨k, hk, hi⟩ := List.getElem_of_mem h
 refine ⟨k + (Region.ready .any ops listed).length * t, ?_⟩
 simp only [Region.linearise.go]
 change (match (Region.ready .any ops listed)[(k + (Region.ready .any ops listed).length * t) % (Region.ready .any ops listed).length]? with
   | some i => Region.linearise.go .any ops fuel ((k + (Region.ready .any ops listed).length * t) / (Region.ready .any ops listed).length) (listed.setIfInBounds i true) [i]
   | none => [].reverse) = _
 have e1 : (k + (Region.ready .any ops listed).length * t) % (Region.ready .any ops listed).length = k := by
  rw [Nat.add_mul_mod_self_left, Nat.mod_eq_of_lt hk]
 have e2 : (k + (Region.ready .any ops listed).length * t) / (Region.ready .any ops listed).length = t := by
  rw [Nat.add_mul_div_left _ _ (Nat.lt_of_le_of_lt (Nat.zero_le _) hk), Nat.div_eq_of_lt hk, Nat.zero_add]
 rw [e1, e2, List.getElem?_eq_getElem hk, hi]
 simp only []
 rw [linearise_go_acc, List.reverse_singleton, List.singleton_append]
/-- One order, step by step: it ends, or takes a ready operation. -/
theorem go_step (fuel t : Nat) (listed : Array Bool) :
  (Region.ready .any ops listed = [] ∧ Region.linearise.go .any ops (fuel + 1) t listed [] = []) ∨
  ∃ i ∈ Region.ready .any ops listed, ∃ t', Region.linearise.go .any ops (fuel + 1) t listed [] = i :: Region.linearise.go .any ops fuel t' (listed.setIfInBounds i true) [] := by
 simp only [Region.linearise.go]
 change (_ ∧ (match (Region.ready .any ops listed)[t % (Region.ready .any ops listed).length]? with
   | some i => Region.linearise.go .any ops fuel (t / (Region.ready .any ops listed).length) (listed.setIfInBounds i true) [i]
   | none => [].reverse) = []) ∨ ∃ i ∈ Region.ready .any ops listed, ∃ t', (match (Region.ready .any ops listed)[t % (Region.ready .any ops listed).length]? with
   | some i => Region.linearise.go .any ops fuel (t / (Region.ready .any ops listed).length) (listed.setIfInBounds i true) [i]
   | none => [].reverse) = _
 cases hi : (Region.ready .any ops listed)[t % (Region.ready .any ops listed).length]? with
 | none =>
  left
  refine ⟨?_, rfl⟩
  cases hr : Region.ready .any ops listed with
  | nil => rfl
  | cons x xs =>
   rw [hr] at hi
   have hlt : t % (x :: xs).length < (x :: xs).length := Nat.mod_lt _ (by simp)
   simp at hi
   simp at hlt
   omega
 | some i =>
  right
  refine ⟨i, List.mem_of_getElem? hi, t / (Region.ready .any ops listed).length, ?_⟩
  simp only []
  rw [linearise_go_acc, List.reverse_singleton, List.singleton_append]
theorem go_empty {fuel t : Nat} {listed : Array Bool} (h : Region.ready .any ops listed = []) : Region.linearise.go .any ops (fuel + 1) t listed [] = [] := by
 rcases go_step (ops := ops) fuel t listed with ⟨-, h2⟩ | ⟨i, hi, -⟩
 ·exact h2
 ·rw [h] at hi
  cases hi
/-- Once x is listed the new edge binds no more. -/
theorem go_listed {x y : Nat} : ∀ (fuel t : Nat) (listed : Array Bool), listed.getD x false = true → ∃ t', Region.linearise.go .any ops fuel t listed [] = Region.linearise.go .any (addE x y ops) fuel t' listed []
 | 0, t, listed, _ => ⟨t, rfl⟩
 | fuel + 1, t, listed, hx => by
  rcases go_step (ops := ops) fuel t listed with ⟨h1, h2⟩ | ⟨i, hi, t', h⟩
  ·refine ⟨0, ?_⟩
   rw [h2, go_empty]
   cases hr : Region.ready .any (addE x y ops) listed with
   | nil => rfl
   | cons i l =>
    have := ready_to (x := x) (y := y) (i := i) (by rw [hr]; exact List.mem_cons_self)
    rw [h1] at this
    cases this
  ·obtain ⟨t2, h2⟩ := go_listed fuel t' (listed.setIfInBounds i true) (getD_set_true hx)
   obtain ⟨t3, h3⟩ := go_pick (fuel := fuel) (ready_of (y := y) hi fun _ => hx) t2
   exact ⟨t3, by rw [h, h2, h3]⟩
theorem go_two {x y : Nat} (hxy : x ≠ y) : ∀ (fuel t : Nat) (listed : Array Bool),
  (∃ t', Region.linearise.go .any ops fuel t listed [] = Region.linearise.go .any (addE x y ops) fuel t' listed []) ∨
  (∃ t', Region.linearise.go .any ops fuel t listed [] = Region.linearise.go .any (addE y x ops) fuel t' listed [])
 | 0, t, listed => .inl ⟨t, rfl⟩
 | fuel + 1, t, listed => by
  rcases go_step (ops := ops) fuel t listed with ⟨h1, h2⟩ | ⟨i, hi, t', h⟩
  ·refine .inl ⟨0, ?_⟩
   rw [h2, go_empty]
   cases hr : Region.ready .any (addE x y ops) listed with
   | nil => rfl
   | cons i l =>
    have := ready_to (x := x) (y := y) (i := i) (by rw [hr]; exact List.mem_cons_self)
    rw [h1] at this
    cases this
  ·have hset : ∀ j, i = j → (listed.setIfInBounds i true).getD j false = true := fun j hj => by
    subst hj
    have := (mem_ready.1 hi).1
    rcases Nat.lt_or_ge i listed.size with h' | h'
    ·simp [h']
    ·simp [Array.getElem?_eq_none h'] at this
   by_cases hix : i = x
   ·obtain ⟨t2, h2⟩ := go_listed (ops := ops) (x := x) (y := y) fuel t' _ (hset x hix)
    obtain ⟨t3, h3⟩ := go_pick (fuel := fuel) (ready_of (x := x) (y := y) hi fun e => absurd (hix.symm.trans e) hxy) t2
    exact .inl ⟨t3, by rw [h, h2, h3]⟩
   ·by_cases hiy : i = y
    ·obtain ⟨t2, h2⟩ := go_listed (ops := ops) (x := y) (y := x) fuel t' _ (hset y hiy)
     obtain ⟨t3, h3⟩ := go_pick (fuel := fuel) (ready_of (x := y) (y := x) hi fun e => absurd e hix) t2
     exact .inr ⟨t3, by rw [h, h2, h3]⟩
    ·rcases go_two hxy fuel t' (listed.setIfInBounds i true) with ⟨t2, h2⟩ | ⟨t2, h2⟩
     ·obtain ⟨t3, h3⟩ := go_pick (fuel := fuel) (ready_of (x := x) (y := y) hi fun e => absurd e hiy) t2
      exact .inl ⟨t3, by rw [h, h2, h3]⟩
     ·obtain ⟨t3, h3⟩ := go_pick (fuel := fuel) (ready_of (x := y) (y := x) hi fun e => absurd e hix) t2
      exact .inr ⟨t3, by rw [h, h2, h3]⟩
/-- Every order of a region, from its start. -/
structure Reg (P : Program) (ops : Array Oper) (Q : Exit → Act → World → Prop) (a : Act) (w : World) : Prop where
 out : ∀ t, wpOps P ops Q (Region.linearise .any ops t) a w
theorem reg_in {id : Nat} {a : Act} {w : World} (hm : P.follows .mixedOrders = true) (h : Reg P ops Q a w.drew) : (Code.region id ops true).wp P Q a w :=
 wp_region_draw fun t => by
  simp only [Region.schedule, hm, Bool.true_or, if_true]
  exact h.out t
theorem reg_two {a : Act} {w : World} (x y : Nat) (hxy : x ≠ y) (h1 : Reg P (addE x y ops) Q a w) (h2 : Reg P (addE y x ops) Q a w) : Reg P ops Q a w := ⟨fun t => by
 unfold Region.linearise
 rcases go_two (ops := ops) hxy ops.size t (Array.replicate ops.size false) with ⟨t', h⟩ | ⟨t', h⟩
 ·rw [h]
  have := h1.out t'
  unfold Region.linearise at this
  rw [addE_size] at this
  exact addE_wpOps x y _ _ _ this
 ·rw [h]
  have := h2.out t'
  unfold Region.linearise at this
  rw [addE_size] at this
  exact addE_wpOps y x _ _ _ this⟩
/-- Each operation waits only for those that stand ahead of it in the list. -/
def orderedBy (l : List Nat) (ops : Array Oper) : Bool := (List.range ops.size).all fun i => match ops[i]? with
 | some o => o.after.all (fun e => !Region.binds .any e || (decide (l.idxOf e.on < l.idxOf i) && decide (e.on < ops.size)))
 | none => true
theorem led_by {l : List Nat} (ho : orderedBy l ops = true) : Led ops := fun listed hsz hr i hi => by
 have key : ∀ n i, l.idxOf i = n → i < ops.size → listed.getD i true = true := by
  intro n
  induction n using Nat.strongRecOn with
  | _ n ih =>
   intro i hn hi
   cases hl : listed.getD i true with
   | true => rfl
   | false =>
    exfalso
    have ho' : ops[i]? = some ops[i] := by simp [hi]
    have hmem : i ∈ Region.ready .any ops listed := mem_ready.2 ⟨hl, ops[i], ho', fun e he hb => by
     unfold orderedBy at ho
     have h1 := List.all_eq_true.1 ho i (List.mem_range.2 hi)
     simp only [ho'] at h1
     have h2 := Array.all_eq_true_iff_forall_mem.1 h1 e he
     simp only [hb, Bool.not_true, Bool.false_or, Bool.and_eq_true, decide_eq_true_eq] at h2
     have h3 := ih _ (by omega) e.on rfl h2.2
     have : e.on < listed.size := by omega
     simpa [this] using h3⟩
    rw [hr] at hmem
    cases hmem
 exact key _ i rfl hi
def check2 (ops : Array Oper) (is : List (K × Nat)) : Bool :=
 Region.noSelect ops && orderedBy (is.map (·.2)) ops && okList ops is && decide (is.map (·.2)).Nodup && decide (is.length ≤ ops.size) && (List.range ops.size).all (fun i => (is.map (·.2)).contains i)
theorem reg_walk {a : Act} {w : World} (is : List (K × Nat)) (hc : check2 ops is = true) (hal : AllocRuns P ops is)
  (hQ : ∀ c (a s : Act) w, s.defers = a.defers → Q (.panic c) a w → Q (.panic c) s w)
  (h : walk P ops Q w.heap.size is [] a w) : Reg P ops Q a w := ⟨fun t => by
 unfold check2 at hc
 simp only [Bool.and_eq_true, decide_eq_true_eq] at hc
 obtain ⟨⟨⟨⟨⟨h1, h2⟩, h3⟩, h4⟩, h5⟩, h6⟩ := hc
 unfold Region.linearise
 refine wpAny_sound _ _ _ _ _ ?_
 refine phase_main h1 (led_by h2) hQ w.heap.size ops.size is [] [] [] _ a a w ?_ ?_ h3 h4 (by simp) (by simp) hal ?_ h
 ·rw [allocWith_nil]; exact h5
 ·refine ⟨by simp, fun i hi => ?_, fun j o hj hl => ?_, rfl, rfl, fun t _ _ => rfl, by simp, by simp, by simp, by simp⟩
  ·have hmem : i ∈ is.map (·.2) := by simpa using List.all_eq_true.1 h6 i (List.mem_range.2 hi)
   simp [hi]
   simpa using hmem
  ·have hj' := (Array.getElem?_eq_some_iff.1 hj).1
   simp [hj'] at hl
 ·exact ⟨by simp, by simp, by simp, by simp, Nat.le_refl _⟩⟩
end Go.SW
namespace Go.SW
open Go Go.RowKit
variable {P : Program} {ops : Array Oper} {Q : Exit → Act → World → Prop}
theorem addE_some {x y i : Nat} {o : Oper} (h : ops[i]? = some o) : ∃ o', (addE x y ops)[i]? = some o' ∧ o'.dst = o.dst ∧ o'.op = o.op ∧ o'.guard = o.guard ∧ (∀ (a : Act) (w : World) K R, o.wp P a w K R → o'.wp P a w K R) ∧ (∀ f, Region.wanted o' f = Region.wanted o f) ∧ (∀ ρ, execOp ρ o' = execOp ρ o) ∧ ∀ (a : Act) (w : World), Oper.asks P o a w → Oper.asks P o' a w := by
 refine ⟨_, by rw [addE_get, h]; rfl, ?_, ?_, ?_, ?_, ?_, ?_, ?_⟩
 all_goals split <;> first | rfl | exact fun _ _ _ _ h => h | exact fun _ => rfl | exact fun _ _ h => h
theorem addE_wpOps' (x y : Nat) : ∀ (l : List Nat) (a : Act) (w : World), wpOps P ops Q l a w → wpOps P (addE x y ops) Q l a w
 | [], _, _, h => h
 | i :: l, a, w, h => by
  have ih := addE_wpOps' x y l
  unfold wpOps at h ⊢
  have hy : yielded (addE x y ops) a.tmps = yielded ops a.tmps := funext fun g => addE_yielded x y _ g
  rw [hy]
  cases ho : ops[i]? with
  | none =>
   rw [addE_get, ho, Option.map_none]
   simp only [ho] at h ⊢
   exact ih _ _ h
  | some o =>
   obtain ⟨o', h1, h2, h3, h4, h5, h6, h7, h8⟩ := addE_some (P := P) (x := x) (y := y) ho
   rw [h1]
   simp only [ho, h6, h2] at h ⊢
   split at h
   ·rename_i hw
    rw [if_pos hw]
    rcases h with h | h
    ·exact .inl (h5 _ _ _ _ (Oper.wp_mono ih h))
    ·exact .inr ⟨h8 _ _ h.1, h.2⟩
   ·rename_i hw
    rw [if_neg hw]
    exact ih _ _ h
theorem walk_addE (x y N : Nat) : ∀ (is : List (K × Nat)) (A : List Nat) (a : Act) (w : World), walk P ops Q N is A a w → walk P (addE x y ops) Q N is A a w
 | [], _, _, _, h => h
 | (k, i) :: is, A, a, w, h => by
  have ih := walk_addE x y N is
  unfold walk at h ⊢
  have hy : yielded (addE x y ops) a.tmps = yielded ops a.tmps := funext fun g => addE_yielded x y _ g
  rw [hy]
  cases ho : ops[i]? with
  | none => rw [ho] at h; exact h.elim
  | some o =>
   obtain ⟨o', h1, h2, h3, h4, h5, h6, h7, h8⟩ := addE_some (P := P) (x := x) (y := y) ho
   rw [ho] at h
   rw [h1]
   cases k with
   | pure =>
    simp only [h6, h7, h2] at h ⊢
    split at h
    ·rename_i hw
     rw [if_pos hw]
     obtain ⟨v, k1, k2⟩ := h
     exact ⟨v, k1, ih _ _ _ k2⟩
    ·rename_i hw
     rw [if_neg hw]
     exact ih _ _ _ h
   | read =>
    simp only [h6, h7, h2] at h ⊢
    split at h
    ·rename_i hw
     rw [if_pos hw]
     obtain ⟨v, k1, k2⟩ := h
     exact ⟨v, k1, ih _ _ _ k2⟩
    ·rename_i hw
     rw [if_neg hw]
     exact ih _ _ _ h
   | alloc cs T =>
    simp only [h2] at h ⊢
    exact fun b w' k1 k2 k3 k4 k5 => ih _ _ _ (h b w' k1 k2 k3 k4 k5)
   | ext =>
    simp only [h6, h2] at h ⊢
    split at h
    ·rename_i hw
     rw [if_pos hw]
     exact fun w' k1 => h5 _ _ _ _ (Oper.wp_mono (fun a' w'' k => ⟨k.1, ih _ _ _ k.2⟩) (h w' k1))
    ·rename_i hw
     rw [if_neg hw]
     exact ih _ _ _ h
   | fin =>
    exact fun w' k1 => addE_wpOps' x y _ _ _ (h w' k1)
/-- A step, or two calls in either order. -/
inductive St | one (k : K) (i : Nat) | two (i j : Nat)
variable {o : Oper} {i : Nat} {is : List St} {a : Act} {w : World} {N : Nat} {A : List Nat}
end Go.SW
namespace Go.Proofs.YtpoecfpbafpokaaGreatDoor
open Go Go.ChangeShapes Go.WideShapes Go.RowKit Go.Proofs Go.Fra
section
variable {H : Type} {enc : TypeId × Value → H} {P : Program} {W : World} {base : Nat} {sp : Nat → Bool} {held : Bool}
theorem cells_read {a : Addr} {n : Nat} {cs : List Value} (h : W.cells? base a n = some cs) : ∀ i, i < n → W.cell? (a.add i) = cs[i]? := by
 unfold World.cells? at h
 split at h
 ·exact fun i hi => mapM_some_get h i i (by simp [hi])
 ·cases h
theorem cell_in {a : Addr} {v : Value} (h : W.cell? a = some v) : a.block < W.heap.size := by
 unfold World.cell? at h
 rcases Nat.lt_or_ge a.block W.heap.size with h1 | h1
 ·exact h1
 ·rw [Array.getElem?_eq_none h1] at h
  cases h
theorem trod_pairs {T E : TypeId} {k0 k1 : IntKind} {f0 f1 : Field} {fuel : Nat} {cs : List Value} {x : DataW H × List MemPlace} (uT : P.underlying T = some (.slice E)) (uE : P.underlying E = some (.struct #[f0, f1])) (o0 : f0.offset = 0) (o1 : f1.offset = 1)
  (u0 : P.underlying f0.type = some (.int k0)) (u1 : P.underlying f1.type = some (.int k1)) (c0 : P.cellsOf f0.type = 1) (c1 : P.cellsOf f1.type = 1) (cE : P.cellsOf E = 2) (h : DataW.trod enc P W base sp held fuel T cs = some x) :
  ∃ (a : Option Addr) (cap : Nat) (l : List (Int × Int)), cs = [.slice a l.length cap] ∧ l.length ≤ cap ∧ cap ≤ 9223372036854775807 ∧ ∀ k (_ : k < l.length), ∃ b off, a = some ⟨b, off, none⟩ ∧ b < W.heap.size ∧
   W.cell? ⟨b, off + k * 2, none⟩ = some (.int k0 l[k].1) ∧ W.cell? ⟨b, off + k * 2 + 1, none⟩ = some (.int k1 l[k].2) ∧ (Lit.int k0 l[k].1).wf = true ∧ (Lit.int k1 l[k].2).wf = true := by
 rcases DataW.trod_slice uT h with ⟨rfl, -⟩ | ⟨a, len, cap, elems, rest, n, -, rfl, -, -, h1, h2, h3, h4, -⟩
 ·exact ⟨none, 0, [], rfl, Nat.le_refl _, by omega, fun k hk => by cases hk⟩
 ·unfold maxLen at h2
  have hc : ∀ i, i < len → ∃ p : Int × Int, W.cell? (a.add (i * 2)) = some (.int k0 p.1) ∧ W.cell? ((a.add (i * 2)).add 1) = some (.int k1 p.2) ∧ (Lit.int k0 p.1).wf = true ∧ (Lit.int k1 p.2).wf = true := fun i hi => by
   have e := h4 i hi
   rw [List.getElem?_eq_getElem (by omega), cE, Option.bind_eq_some_iff] at e
   obtain ⟨cs', g1, g2⟩ := e
   obtain ⟨y0, y1, m, -, hl, hy0, hy1⟩ := trod_struct2 uE g2
   rw [cE] at hl
   obtain ⟨x0, x1, rfl⟩ : ∃ x0 x1, cs' = [x0, x1] := by
    match cs', hl with
    | [x0, x1], _ => exact ⟨x0, x1, rfl⟩
   rw [o0, c0] at hy0
   rw [o1, c1] at hy1
   obtain ⟨z0, e0, -, w0⟩ := DataW.trod_int u0 hy0
   obtain ⟨z1, e1, -, w1⟩ := DataW.trod_int u1 hy1
   replace e0 : [x0] = [Value.int k0 z0] := e0
   replace e1 : [x1] = [Value.int k1 z1] := e1
   simp only [List.cons.injEq, and_true] at e0 e1
   subst e0 e1
   have r := cells_read g1
   have r0 := r 0 (by omega)
   have r1 := r 1 (by omega)
   rw [show (a.add (i * 2)).add 0 = a.add (i * 2) by simp [Addr.add]] at r0
   exact ⟨(z0, z1), r0, r1, w0, w1⟩
  let g : Nat → Int × Int := fun i => if h : i < len then (hc i h).choose else (0, 0)
  refine ⟨some a, cap, (List.range len).map g, by simp, by simpa using h1, h2, fun k hk => ?_⟩
  rw [List.length_map, List.length_range] at hk
  have hsp := (hc k hk).choose_spec
  have hg : g k = (hc k hk).choose := by simp only [g, hk, dif_pos]
  rw [← hg] at hsp
  rw [List.getElem_map, List.getElem_range]
  have hs : a.spot = none := by simpa [Addr.add] using World.cell?_spot (hc 0 (by omega)).choose_spec.1
  have hl := cell_in hsp.1
  obtain ⟨b, off, spo⟩ := a
  simp only at hs
  subst hs
  simp only [Addr.add_lit] at hsp hl
  exact ⟨b, off, rfl, hl, hsp⟩
end
set_option maxRecDepth 100000 in
theorem open_bands {H : Type} {enc : TypeId × Value → H} {W : World} {b0 base : Nat} {sp : Nat → Bool} {held : Bool} {v : Value} {d : DataW H} {p : List MemPlace}
  (hval : Value.okWide Tryz.prog W .any b0 55 v) (h : DataW.Trod enc Tryz.prog W base sp held 55 v d p) : ∃ l, Bds W 23 v l := by
 obtain ⟨a0, n0, cap0, rfl⟩ := okWide_slice Tryz.underlying55 hval
 obtain ⟨fuel, hf⟩ := h
 obtain ⟨a, cap, l, e, h1, h2, h3⟩ := trod_pairs (k0 := .i64) (k1 := .i64) Tryz.underlying55 Tryz.underlying23 rfl rfl Tryz.underlying3 Tryz.underlying3 (by kernel_rfl) (by kernel_rfl) (by kernel_rfl) hf
 replace e : [Value.slice a0 n0 cap0] = [.slice a l.length cap] := e
 simp only [List.cons.injEq, and_true] at e
 refine ⟨l, a, cap, e, h1, h2, fun k hk => ?_⟩
 obtain ⟨b, off, k1, k2, k3, k4, -⟩ := h3 k hk
 exact ⟨b, off, k1, k2, k3, k4⟩
set_option maxRecDepth 100000 in
theorem open_drafts {H : Type} {enc : TypeId × Value → H} {W : World} {b0 base : Nat} {sp : Nat → Bool} {held : Bool} {v : Value} {d : DataW H} {p : List MemPlace}
  (hval : Value.okWide Tryz.prog W .any b0 56 v) (h : DataW.Trod enc Tryz.prog W base sp held 56 v d p) : ∃ l, Drs W v l := by
 obtain ⟨a0, n0, cap0, rfl⟩ := okWide_slice Tryz.underlying56 hval
 obtain ⟨fuel, hf⟩ := h
 obtain ⟨a, cap, l, e, h1, h2, h3⟩ := trod_pairs (k0 := .i64) (k1 := .u32) Tryz.underlying56 Tryz.underlying26 rfl rfl Tryz.underlying2 Tryz.underlying24 (by kernel_rfl) (by kernel_rfl) (by kernel_rfl) hf
 replace e : [Value.slice a0 n0 cap0] = [.slice a l.length cap] := e
 simp only [List.cons.injEq, and_true] at e
 refine ⟨l, a, cap, e, h1, h2, fun k hk => ?_⟩
 obtain ⟨b, off, k1, k2, k3, k4, -, k5⟩ := h3 k hk
 exact ⟨b, off, k1, k2, k3, k4, u32_wf k5⟩
end Go.Proofs.YtpoecfpbafpokaaGreatDoor
namespace Go.Proofs.verdigrislaw04
open Go Go.RowKit Go.SW Go.Num Go.Mem Go.Proofs Go.Dec Go.Fra Go.Proofs.band
theorem wpList_keep {ops : Array Oper} {rest : List Oper} {o : Oper} {a : Act} {w : World} {Q : Exit → Act → World → Prop} (hgd : o.guard = none) (s x : Operand) (ho : o.op = .call { callee := .builtin .append, args := #[s, x], argTypes := #[55, 55] })
  {B : Nat} {v u : Value} {l m : List (Int × Int)} {T : TypeId} (hs : a.eval s = v) (hO : Go.Fra.Own w B 23 v l) (hx : a.eval x = u) (hS : Bds w T u m) (hl : l.length + m.length ≤ 1000) (hB : B ≤ w.heap.size)
  (h : ∀ v' w', Bds w' 23 v' (l ++ m) → Bds w' 23 v l → Below B w w' → w.grownBy w' v.ownBlock → wpList Tryz.prog ops Q rest (a.put o.dst v') w') : wpList Tryz.prog ops Q (o :: rest) a w :=
 wpList_plain hgd fun _ hK => by
  obtain ⟨v', w', hr, h1, h2, h3, h4⟩ := app_keep o.type hO hS hl hB
  unfold Oper.wp execOp
  simp only [ho, resolve, invoke, builtin, Sem.run_bind, Sem.run_pure, Result.andThen_ok, List.map_toArray, List.map_cons, List.map_nil, hs, hx, hr]
  exact hK _ _ (h v' w' h1 h2 h3 h4)
theorem min9 (n : Nat) : ∃ m : Nat, m ≤ n ∧ m ≤ 9 ∧ (∀ (ts : Array TypeId) (t : TypeId) (W : World), (Builtin.min_ ts t #[.int .i64 (n : Int), .int .i64 9]).run Tryz.prog W = .ok (.int .i64 (m : Int)) W) := by
 rcases Nat.lt_or_ge 9 n with h | h
 ·refine ⟨9, by omega, by omega, fun ts t W => ?_⟩
  have h1 : (9 : Int) < (n : Int) := by omega
  rw [run_min_int2]; simp [h1]
 ·refine ⟨n, by omega, by omega, fun ts t W => ?_⟩
  have h1 : ¬ (9 : Int) < (n : Int) := by omega
  rw [run_min_int2]; simp [h1]
set_option maxRecDepth 10000 in
set_option maxHeartbeats 4000000 in
theorem PowerNorms_main (a1 a2 : Option Addr) (n1 n2 c1 c2 : Nat) (l1 l2 : List (Int × Int)) (w : World) (H1 : Bds w 23 (.slice a1 n1 c1) l1) (H2 : Drs w (.slice a2 n2 c2) l2) (ht : Bld.Pow w) (he : whole.Er w) :
  Calls Tryz.prog 5 #[.slice a1 n1 c1, .slice a2 n2 c2] w (fun e w' => e = .returned (.bool true) ∧ Below w.heap.size w w') := by
 have HP := Lib.hid ht
 have HE := Lib.hid he
 have HW := Lib.hid (fun W h1 h2 => works_ok W h1 h2)
 clear ht he
 obtain ⟨m1, k1, k2, hmin1⟩ := min9 n1
 obtain ⟨m2, k3, k4, hmin2⟩ := min9 n2
 have hc1 : n1 ≤ c1 := by obtain ⟨a', cap, e, h1, -⟩ := H1; cases e; exact h1
 have hc2 : n2 ≤ c2 := by obtain ⟨a', cap, e, h1, -⟩ := H2; cases e; exact h1
 have hsl1 := sliceTo 55 23 Tryz.underlying55 (fun W => by kernel_rfl) a1 n1 c1 m1 (by omega)
 have hsl2 := sliceTo 56 26 Tryz.underlying56 (fun W => by kernel_rfl) a2 n2 c2 m2 (by omega)
 have HR := Lib.hid (bds_take H1 k1)
 have HD := Lib.hid (drs_take H2 k3)
 have hl1 : (l1.take m1).length = m1 := by obtain ⟨a', cap, e, -⟩ := H1; cases e; rw [List.length_take]; omega
 have hl2 : (l2.take m2).length = m2 := by obtain ⟨a', cap, e, -⟩ := H2; cases e; rw [List.length_take]; omega
 generalize l1.take m1 = r1 at *
 generalize l2.take m2 = r2 at *
 have HL := Lib.hid (And.intro hl1 hl2)
 have HM := Lib.hid (And.intro k2 k4)
 clear H1 H2 k1 k2 k3 k4 hc1 hc2 hl1 hl2
 go_enter Tryz.func5, Tryz.ntmps5
 go_wp2_with fail
 refine (HW.out _ HP.out HE.out).mono ?_
 rintro e w1 ⟨rfl, hb1⟩
 have HB := Lib.hid hb1
 clear hb1 HW
 go_wp2_with fail
 go_loopw [5, 6, 28] (fun wv sv iv wr => ∃ (k : Nat) (L5 L6 : List (Int × Int)), k ≤ m2 ∧ iv = .int .i64 (k : Int) ∧ Hid (L5.length = k ∧ L6.length = k) ∧ Hid (Go.Fra.Own wr w.heap.size 23 wv L5) ∧ Hid (Go.Fra.Own wr w.heap.size 23 sv L6) ∧ Hid (∀ r, wv.ownBlock = some r → sv.ownBlock ≠ some r) ∧ Hid (Below w.heap.size w wr)) (fun _ _ iv _ => m2 - (intOf iv).toNat)
 case atStart => exact ⟨0, [], [], by omega, rfl, Lib.hid ⟨rfl, rfl⟩, Lib.hid (Own.nil _ _ _), Lib.hid (Own.nil _ _ _), Lib.hid (fun r h => by cases h), HB⟩
 case round =>
  clear HB
  obtain ⟨k, L5, L6, hk, rfl, HK, O5, O6, HN, HB⟩ := hrel
  rcases Nat.lt_or_ge k m2 with hlt | hge
  ·obtain ⟨b, off, d1, d2, rfl, hb0, hx1, hx2, hw0, hw1⟩ := drs_at HD.out HL.out.2 k hlt
   have x1 := (HB.out.cell (p := ⟨b, off + k * 2, none⟩) hb0).trans hx1
   have x2 := (HB.out.cell (p := ⟨b, off + k * 2 + 1, none⟩) hb0).trans hx2
   clear hx1 hx2
   have hkk : (k : Int) < (m2 : Int) := by omega
   have HW1 : Hid (wrap64 ((k : Int) + 1) = ((k + 1 : Nat) : Int)) := Lib.hid (by have := HM.out; unfold wrap64; omega)
   have H12 := Lib.hid (fun W => Band_ok d1 d2 hw0 hw1 W)
   have H13 := Lib.hid (fun W => Small_ok d1 d2 hw0 hw1 W)
   clear hw0 hw1
   go_wp2_with fail
   obtain ⟨wy, EW, hz, X8⟩ := al1 wr #[.int .i64 d1, .int .u32 d2] 26
   rw [EW]
   clear EW x1 x2 hkk
   obtain ⟨g, eg⟩ : ∃ g, wr.heap.size = g := ⟨_, rfl⟩
   have HG : Hid (∀ r, u5.ownBlock = some r → r ≠ g) := Lib.hid fun r h => by have := (O5.out.lt r h).2; omega
   replace O5 := Lib.hid (O5.out.later hz)
   replace O6 := Lib.hid (O6.out.later hz)
   replace HB := Lib.hid (Bt HB.out hz)
   rw [eg] at X8 ⊢
   clear eg hz
   obtain ⟨c8, l8⟩ := X8.cl
   refine reg_in (by kernel_rfl) (reg_two 6 4 (by decide) (reg_walk ([(.pure, 0), (.read, 1), (.pure, 5), (.read, 6), (.ext, 2), (.ext, 3), (.fin, 4), (.fin, 7), (.fin, 8), (.fin, 9), (.fin, 10), (.fin, 11)]) (by kernel_rfl) (allocRuns_of (by kernel_rfl)) (fun _ _ _ _ hd h => And.intro (hd.trans (And.left h)) (And.right h)) (walk_addE _ _ _ _ _ _ _ (Wk.out ?o1))) (reg_walk ([(.pure, 0), (.read, 1), (.pure, 5), (.ext, 2), (.ext, 3), (.fin, 4), (.fin, 6), (.fin, 7), (.fin, 8), (.fin, 9), (.fin, 10), (.fin, 11)]) (by kernel_rfl) (allocRuns_of (by kernel_rfl)) (fun _ _ _ _ hd h => And.intro (hd.trans (And.left h)) (And.right h)) (walk_addE _ _ _ _ _ _ _ (Wk.out ?o2))))
   case o1 =>
    (iterate 4 (first | (apply wk_skip; (rfl); (rfl); (rfl); (intro J hJ; go_simp; (with_reducible refine hJ _ ?_); clear hJ J)) | (apply wk_len; (rfl); (rfl); (rfl); (rfl); (exact (by kernel_rfl)); (intro J hJ; go_simp; (with_reducible refine hJ _ ?_); clear hJ J)) | (apply wk_pure; (rfl); (rfl); (intro J hJ; go_simp; (with_reducible refine hJ _ ?_); clear hJ J)) | (apply wk_load; (rfl); (rfl); (rfl); (rfl); (intro J hJ; go_simp; (with_reducible refine hJ _ ?_); clear hJ J; try go_simp))))
    refine wk_ext rfl rfl (fun wa hba J hJ => ?_); go_simp
    refine (H12.out wa).mono ?_
    rintro e wb ⟨⟨lo, hi, rfl, -⟩, hbb⟩
    refine hJ _ _ hbb ?_
    clear hJ J
    refine wk_ext rfl rfl (fun wc hbc J hJ => ?_); go_simp
    refine hJ _ _ belA ?_
    clear hJ J
    have hbx := Box.new wc #[.int .i64 lo, .int .i64 hi] 23
    have z1 : Below wy.heap.size wy (wc.alloc (.cells #[.int .i64 lo, .int .i64 hi] 23)) := belA
    refine wk_fin [_, _, _, _, _, _] rfl (fun wf hbf => ?_)
    simp only [List.getElem_toArray, List.getElem_cons_succ, List.getElem_cons_zero]
    have z2 := Bt z1 hbf
    replace hbx := hbx.later hbf
    replace O5 := Lib.hid (O5.out.later z2)
    replace O6 := Lib.hid (O6.out.later z2)
    replace X8 := X8.bl z2
    replace HB := Lib.hid (Bt HB.out z2)
    clear z1 z2 hba hbb hbc hbf
    refine wpList_append rfl (.tmp 32) (.tmp 35) rfl rfl O5.out rfl (Bds.one hbx) (by have := HK.out; have := HM.out; simp; omega) HB.out.size ?_
    intro v5 wg g1 g2 g3
    have HN5 := HN
    replace HN : Hid (∀ r, v5.ownBlock = some r → u6.ownBlock ≠ some r) := Lib.hid fun r h e => by
     rcases g3 with q | q
     ·rw [q] at h
      exact HN.out r h e
     ·rw [q] at h
      cases h
      exact Nat.lt_irrefl _ (O6.out.lt _ e).2
    replace O6 := Lib.hid (O6.out.kept g2 (fun r h e => HN5.out r e h))
    replace HB := Lib.hid (HB.out.grown g2 HB.out.size fun r h => (O5.out.lt r h).1)
    replace X8 := Lib.hid (Box.grown X8.out g2 (fun e => HG.out g e rfl))
    replace O5 := Lib.hid g1
    clear g1 g2 g3 hbx
    obtain ⟨c8, l8⟩ := X8.cl
    go_wp2_with fail
    refine (H13.out _).mono ?_
    rintro e wh ⟨⟨lo2, hi2, rfl, -⟩, hbh⟩
    replace O5 := Lib.hid (O5.out.later hbh)
    replace O6 := Lib.hid (O6.out.later hbh)
    replace HB := Lib.hid (Bt HB.out hbh)
    clear hbh c8 l8
    go_wp2_with (at_builtin; refine wpList_append rfl (.tmp 37) (.tmp 40) rfl rfl (O6.out.later belA) rfl (Bds.one (Box.new _ _ _)) ?q1 ?q2 ?_)
    case q1 => have := HK.out; have := HM.out; simp; omega
    case q2 => have := HB.out.size; simp; omega
    intro v6 wi f1 f2 f3
    have hal : Below wh.heap.size wh (wh.alloc (.cells #[.int .i64 lo2, .int .i64 hi2] 23)) := belA
    replace O5 := Lib.hid (O5.out.later hal)
    replace O6 := Lib.hid (O6.out.later hal)
    replace HB := Lib.hid (Bt HB.out hal)
    clear hal
    have HN6 := HN
    replace HN : Hid (∀ r, v5.ownBlock = some r → v6.ownBlock ≠ some r) := Lib.hid fun r h e => by
     rcases f3 with q | q
     ·rw [q] at e
      exact HN.out r h e
     ·rw [q] at e
      cases e
      exact absurd (O5.out.lt _ h).2 (by simp)
    replace O5 := Lib.hid (O5.out.kept f2 (fun r h e => HN6.out r h e))
    replace HB := Lib.hid (HB.out.grown f2 HB.out.size fun r h => (O6.out.lt r h).1)
    replace O6 := Lib.hid f1
    clear f1 f2 f3
    have HL5 : Hid ((L5 ++ [(lo, hi)]).length = k + 1 ∧ (L6 ++ [(lo2, hi2)]).length = k + 1) := Lib.hid (by have := HK.out; simp; omega)
    go_wp2_with fail
    go_roundw
    case rel => exact ⟨k + 1, _, _, by omega, by rw [HW1.out], HL5, O5, O6, HN, HB⟩
    case measure => rw [HW1.out]; simp [intOf]; omega
   case o2 =>
    (iterate 3 (first | (apply wk_skip; (rfl); (rfl); (rfl); (intro J hJ; go_simp; (with_reducible refine hJ _ ?_); clear hJ J)) | (apply wk_len; (rfl); (rfl); (rfl); (rfl); (exact (by kernel_rfl)); (intro J hJ; go_simp; (with_reducible refine hJ _ ?_); clear hJ J)) | (apply wk_pure; (rfl); (rfl); (intro J hJ; go_simp; (with_reducible refine hJ _ ?_); clear hJ J)) | (apply wk_load; (rfl); (rfl); (rfl); (rfl); (intro J hJ; go_simp; (with_reducible refine hJ _ ?_); clear hJ J; try go_simp))))
    refine wk_ext rfl rfl (fun wa hba J hJ => ?_); go_simp
    refine (H12.out wa).mono ?_
    rintro e wb ⟨⟨lo, hi, rfl, -⟩, hbb⟩
    refine hJ _ _ hbb ?_
    clear hJ J
    refine wk_ext rfl rfl (fun wc hbc J hJ => ?_); go_simp
    refine hJ _ _ belA ?_
    clear hJ J
    have hbx := Box.new wc #[.int .i64 lo, .int .i64 hi] 23
    have z1 : Below wy.heap.size wy (wc.alloc (.cells #[.int .i64 lo, .int .i64 hi] 23)) := belA
    refine wk_fin [_, _, _, _, _, _, _] rfl (fun wf hbf => ?_)
    simp only [List.getElem_toArray, List.getElem_cons_succ, List.getElem_cons_zero]
    have z2 := Bt z1 hbf
    replace hbx := hbx.later hbf
    replace O5 := Lib.hid (O5.out.later z2)
    replace O6 := Lib.hid (O6.out.later z2)
    replace X8 := X8.bl z2
    replace HB := Lib.hid (Bt HB.out z2)
    clear z1 z2 hba hbb hbc hbf
    refine wpList_append rfl (.tmp 32) (.tmp 35) rfl rfl O5.out rfl (Bds.one hbx) (by have := HK.out; have := HM.out; simp; omega) HB.out.size ?_
    intro v5 wg g1 g2 g3
    have HN5 := HN
    replace HN : Hid (∀ r, v5.ownBlock = some r → u6.ownBlock ≠ some r) := Lib.hid fun r h e => by
     rcases g3 with q | q
     ·rw [q] at h
      exact HN.out r h e
     ·rw [q] at h
      cases h
      exact Nat.lt_irrefl _ (O6.out.lt _ e).2
    replace O6 := Lib.hid (O6.out.kept g2 (fun r h e => HN5.out r e h))
    replace HB := Lib.hid (HB.out.grown g2 HB.out.size fun r h => (O5.out.lt r h).1)
    replace X8 := Lib.hid (Box.grown X8.out g2 (fun e => HG.out g e rfl))
    replace O5 := Lib.hid g1
    clear g1 g2 g3 hbx
    obtain ⟨c8, l8⟩ := X8.cl
    go_wp2_with fail
    refine (H13.out _).mono ?_
    rintro e wh ⟨⟨lo2, hi2, rfl, -⟩, hbh⟩
    replace O5 := Lib.hid (O5.out.later hbh)
    replace O6 := Lib.hid (O6.out.later hbh)
    replace HB := Lib.hid (Bt HB.out hbh)
    clear hbh c8 l8
    go_wp2_with (at_builtin; refine wpList_append rfl (.tmp 37) (.tmp 40) rfl rfl (O6.out.later belA) rfl (Bds.one (Box.new _ _ _)) ?q1 ?q2 ?_)
    case q1 => have := HK.out; have := HM.out; simp; omega
    case q2 => have := HB.out.size; simp; omega
    intro v6 wi f1 f2 f3
    have hal : Below wh.heap.size wh (wh.alloc (.cells #[.int .i64 lo2, .int .i64 hi2] 23)) := belA
    replace O5 := Lib.hid (O5.out.later hal)
    replace O6 := Lib.hid (O6.out.later hal)
    replace HB := Lib.hid (Bt HB.out hal)
    clear hal
    have HN6 := HN
    replace HN : Hid (∀ r, v5.ownBlock = some r → v6.ownBlock ≠ some r) := Lib.hid fun r h e => by
     rcases f3 with q | q
     ·rw [q] at e
      exact HN.out r h e
     ·rw [q] at e
      cases e
      exact absurd (O5.out.lt _ h).2 (by simp)
    replace O5 := Lib.hid (O5.out.kept f2 (fun r h e => HN6.out r h e))
    replace HB := Lib.hid (HB.out.grown f2 HB.out.size fun r h => (O6.out.lt r h).1)
    replace O6 := Lib.hid f1
    clear f1 f2 f3
    have HL5 : Hid ((L5 ++ [(lo, hi)]).length = k + 1 ∧ (L6 ++ [(lo2, hi2)]).length = k + 1) := Lib.hid (by have := HK.out; simp; omega)
    go_wp2_with fail
    go_roundw
    case rel => exact ⟨k + 1, _, _, by omega, by rw [HW1.out], HL5, O5, O6, HN, HB⟩
    case measure => rw [HW1.out]; simp [intOf]; omega
  ·obtain rfl : k = m2 := by omega
   go_wp2_with (at_builtin; refine wpList_keep rfl (.tmp 46) (.tmp 47) rfl rfl O6.out rfl (HR.out.later HB.out) ?c1 HB.out.size ?_)
   case c1 =>
    have := HK.out
    have := HL.out
    have := HM.out
    omega
   intro v6 w2 g1 g2 g3 g4
   have S1 := Lib.hid ((O5.out.kept g4 (fun r h e => HN.out r h e)).bds)
   have S2 := Lib.hid g2
   have S3 := Lib.hid g1
   have S0 := Lib.hid (HR.out.later (HB.out.trans g3))
   have HB2 := Lib.hid (HB.out.trans g3)
   obtain ⟨p5, q5, rfl⟩ := O5.out.slice
   obtain ⟨p6, q6, rfl⟩ := O6.out.slice
   obtain ⟨p7, q7, rfl, -⟩ := id g1
   clear g1 g2 g3 g4 O5 O6 HN HB HD HR HK
   generalize L5.length = n5 at *
   generalize L6.length = n6 at *
   generalize (L6 ++ r1).length = n7 at *
   go_wp2_with fail
   go_loopw [50] (fun iv wr => ∃ k : Nat, k ≤ 4 ∧ iv = .int .i64 (k : Int) ∧ Hid (Below w.heap.size w wr) ∧ Hid (Below w2.heap.size w2 wr)) (fun iv _ => 4 - (intOf iv).toNat)
   case atStart => exact ⟨0, by omega, rfl, HB2, Lib.hid (Below.refl _ _)⟩
   case round =>
    clear HB2
    obtain ⟨k, hk, rfl, HB, HC⟩ := hrel
    rcases Nat.lt_or_ge k 4 with hlt | hge
    ·obtain ⟨p, n, c, m, hix, hm⟩ : ∃ (p : Option Addr) (n c : Nat) (m : List (Int × Int)), (∀ W : World, (Instr.index 57 (.agg #[.slice a1 m1 c1, .slice p5 n5 q5, .slice p6 n6 q6, .slice p7 n7 q7]) (.int .i64 (k : Int))).run Tryz.prog W = .ok (.slice p n c) W) ∧ Bds w2 23 (.slice p n c) m := by
      have : k = 0 ∨ k = 1 ∨ k = 2 ∨ k = 3 := by omega
      rcases this with rfl | rfl | rfl | rfl
      ·exact ⟨_, _, _, _, fun W => by kernel_rfl, S0.out⟩
      ·exact ⟨_, _, _, _, fun W => by kernel_rfl, S1.out⟩
      ·exact ⟨_, _, _, _, fun W => by kernel_rfl, S2.out⟩
      ·exact ⟨_, _, _, _, fun W => by kernel_rfl, S3.out⟩
     have HS := Lib.hid (hm.later HC.out)
     have hk4 : (k : Int) < 4 := by omega
     clear hm
     obtain ⟨z, EZ⟩ : ∃ z, power.nrmE m = z := ⟨_, rfl⟩
     obtain ⟨⟨z1, z2⟩, z3⟩ := z
     have HNA := Lib.hid (power.Norm_ok (.slice p n c) 23 m wr HS.out (HP.out.later HB.out) (HE.out.later HB.out))
     have HNB := Lib.hid (fun W (h : Below wr.heap.size wr W) => verdigrisref04.Norm_ok (.slice p n c) 23 m W (HS.out.later h))
     rw [EZ] at HNA HNB
     unfold bndV at HNA HNB
     clear HS EZ
     go_wp2_with fail
     refine HNA.out.mono ?_
     rintro e w3 ⟨rfl, hb⟩
     replace HB := Lib.hid (Bt HB.out hb)
     replace HC := Lib.hid (Bt HC.out hb)
     have HD := Lib.hid hb
     clear hb HNA hix
     go_wp2_with fail
     obtain ⟨w4, EW, hz, X11⟩ := al1 w3 #[.int .i64 z1, .int .i64 z2] 23
     rw [EW]
     clear EW
     replace HB := Lib.hid (Bt HB.out hz)
     replace HC := Lib.hid (Bt HC.out hz)
     replace HD := Lib.hid (Bt HD.out hz)
     clear hz
     obtain ⟨g, eg⟩ : ∃ g, w3.heap.size = g := ⟨_, rfl⟩
     rw [eg] at X11 ⊢
     clear eg
     refine (HNB.out _ HD.out).mono ?_
     rintro e w5 ⟨rfl, hb⟩
     replace HB := Lib.hid (Bt HB.out hb)
     replace HC := Lib.hid (Bt HC.out hb)
     replace X11 := X11.bl hb
     clear hb HNB HD
     obtain ⟨c11, l11⟩ := X11.cl
     go_wp2_with fail
     go_roundw
     case rel => exact ⟨k + 1, by omega, by go_num, Lib.hid (Bt HB.out belA), Lib.hid (Bt HC.out belA)⟩
     case measure => simp [intOf]; omega
    ·obtain rfl : k = 4 := by omega
     go_wp2_with fail
     go_ret
     exact ⟨rfl, HB.out⟩
theorem PowerNorms_ok (v1 v2 : Value) (l1 l2 : List (Int × Int)) (w : World) (H1 : Bds w 23 v1 l1) (H2 : Drs w v2 l2) (ht : Bld.Pow w) (he : whole.Er w) :
  Calls Tryz.prog 5 #[v1, v2] w (fun e w' => e = .returned (.bool true) ∧ Below w.heap.size w w') := by
 obtain ⟨a1, c1, rfl, -⟩ := id H1
 obtain ⟨a2, c2, rfl, -⟩ := id H2
 exact PowerNorms_main _ _ _ _ _ _ _ _ w H1 H2 ht he
end Go.Proofs.verdigrislaw04
namespace Go.Proofs.YtpoecfpbafpokaaGreatDoor
open Go Go.ChangeShapes Go.WideShapes Go.ChangeAt Go.RowKit Go.Proofs
theorem own : ownKnob Tryz.prog.godebug = none := by kernel_rfl
theorem door_met (os : Os) (args : Array Value) : laidMetH Tryz.prog Rows.powerNormsRow.laid ((World.doorLaid Tryz.prog 4000 os).forCall (fun _ _ => 0) ⟨#[], args, []⟩).memory := by
 rw [MakeChecks.laidMetH_plain _ _ _ (by kernel_rfl)]
 exact laidMet_of_run' 8 (by kernel_rfl) (by kernel_rfl)
theorem laidOut5 : laidOutB Tryz.prog = true := by kernel_rfl
set_option maxRecDepth 100000 in
theorem powerNorms_lifted (os : Os) (started : os.Started) (H : Type) (enc : TypeId × Value → H) :
  ReturnsInHanded {} Tryz.checked os 5 .any (fun w args => (Rows.powerNormsSpec.pre enc Tryz.prog Tryz.f5 [] false w args ∧ laidMetH Tryz.prog Rows.powerNormsRow.laid w) ∧ sizedMet enc Tryz.prog Tryz.f5 (OpenSpec.ofChange Rows.powerNormsSpec) false w args)
   (Rows.powerNormsSpec.post enc Tryz.prog Tryz.f5 false true false false) := by
 refine returnsInHanded_of_change_and (C := Tryz.checked) (X := fun w _ => laidMetH Tryz.prog Rows.powerNormsRow.laid w) (fun _ _ _ hh h => h.of_heap hh) own started (by kernel_rfl) Tryz.func5
  (ChangeSpec.witness_shaped (enc := enc) (C := Tryz.checked) (os := os) (X := fun w _ => laidMetH Tryz.prog Rows.powerNormsRow.laid w) false (World.doorLaid Tryz.prog 4000 os) #[.slice none 0 0, .slice none 0 0] 8 rfl (World.shaped_of_RefB (by kernel_rfl) (by kernel_rfl)) (by kernel_rfl) (by kernel_rfl) (by kernel_rfl) (door_met os _)) ?_
 intro W base args ds gs before hval0 hW _ _ hL _
 have hW' := hW
 obtain ⟨p, q, hA0, hV, rfl, hfz, hnd⟩ := hW
 have hA : DataW.TrodAll enc Tryz.prog W 0 (fun _ => true) true Tryz.f5.params.toList args.toList ds p := hA0
 rw [Tryz.params5] at hA
 have hval : ∀ (j : Nat) t v, Tryz.f5.params[j]? = some t → args[j]? = some v → Value.okWide Tryz.prog W .any base t v := hval0
 rw [Tryz.params5] at hval
 obtain ⟨v0, vs0, d0, ds0, p0, q0, hargs, rfl, rfl, h0, hr0⟩ := trodAll_cons hA
 obtain ⟨v1, vs1, d1, ds1, p1, q1, rfl, rfl, rfl, h1, hr1⟩ := trodAll_cons hr0
 obtain ⟨rfl, rfl, rfl⟩ := trodAll_nil hr1
 obtain rfl : args = #[v0, v1] := by cases args; simp_all
 obtain ⟨rfl, rfl⟩ := trodVars_none hV
 have h0k := h0
 obtain ⟨l0, w0⟩ := open_bands (hval 0 55 v0 rfl rfl) h0
 have h1k := h1
 obtain ⟨l1, w1⟩ := open_drafts (hval 1 56 v1 rfl rfl) h1
 obtain ⟨hp, hc⟩ := of_laid hL
 simp only [List.nil_append, List.append_nil] at hW'
 have hlt0 : ∀ x ∈ p0, x.block < W.heap.size := fun x hx => hW'.lt x (by simp [hx])
 have hlt1 : ∀ x ∈ p1, x.block < W.heap.size := fun x hx => hW'.lt x (by simp [hx])
 refine (verdigrislaw04.PowerNorms_ok v0 v1 l0 l1 W w0 w1 hp hc).mono fun e W' ⟨he, hb⟩ => ?_
 subst he
 refine ⟨_, rfl, _, _, _, [], p0 ++ p1, [], (by simpa using hW'), ?_, ?_, ?_, hb.frame _, fun h => by cases h⟩
 ·exact trodAll_mk1 (shut_bool Tryz.underlying4 true)
 ·exact ⟨p0, p1, Below.trod laidOut5 (by kernel_rfl) (of_decide_eq_true (by kernel_rfl)) h0k hb hlt0, trodAll_mk1 (Below.trod laidOut5 (by kernel_rfl) (of_decide_eq_true (by kernel_rfl)) h1k hb hlt1), by simp⟩
 ·rfl
theorem powerNorms_holds : Rows.PowerNormsSaid :=
 OpenClaim.holds_of_wide 5 Tryz.f5 rfl rfl rfl rfl rfl rfl rfl ⟨rfl, rfl, rfl, rfl, rfl⟩ rfl rfl rfl rfl rfl (by kernel_rfl) Tryz.func5 (by kernel_rfl)
  (of_decide_eq_true (by kernel_rfl)) (by unfold Func.isWrapper; first | (rw [if_pos (by decide +kernel)]; kernel_rfl) | (rw [if_neg (by decide +kernel)]; exact ⟨rfl, rfl⟩))
  (fun os started H enc _ => powerNorms_lifted os started H enc)
theorem wants0 : Tryz.prog.wantsStandIn 55 = false := by kernel_rfl
theorem wants1 : Tryz.prog.wantsStandIn 56 = false := by kernel_rfl
theorem powerNorms_card : Rows.PowerNormsCardSaid :=
 Claim7.holds_tied_plain_at .later [] [.data, .data, .data, .sentinel, .sentinel] true (true, "bc1bf536eb06bf18bc4c231e9aa64150270bda42f4b23e044d7bfc9ab11b0e23") true
  powerNorms_holds (fun _ h => by cases h) (by kernel_rfl) (fun _ h => by cases h) powerNorms_row_tie rfl ⟨rfl, rfl⟩ (by kernel_rfl) rfl
  (fun f fn hf hfn => by
   obtain rfl : f = 5 := Option.some.inj ((show Tryz.prog.funcNamed "verdigris/verdigrislaw04.PowerNorms" = some 5 by kernel_rfl).symm.trans hf) |>.symm
   obtain rfl : fn = Tryz.f5 := (Option.some.inj (Tryz.func5.symm.trans hfn)).symm
   exact ⟨by kernel_rfl, fun j t ht => by
    rw [Tryz.params5] at ht
    have ht' : t = 55 ∨ t = 56 := by
     rcases j with _ | _ | j <;> simp at ht
     ·exact .inl ht.symm
     ·exact .inr (ht.symm)
    rcases ht' with rfl | rfl
    ·exact wants0
    ·exact wants1⟩)
  (by kernel_rfl)
end Go.Proofs.YtpoecfpbafpokaaGreatDoor
