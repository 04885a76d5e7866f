/- verdigrislaw04.PowerProducts returns true. Conditions: those of the given row. -/
import Derived.Test.YtpoecfpbafpokaaGreatDoorR01
import Derived.Test.YtpoecfpbafpokaaGreatDoorR02
import Derived.Test.YtpoecfpbafpokaaGreatDoorCards
import Derived.Test.YtpoecfpbafpokaaGreatDoorTie
import Derived.ChangeSame
import Derived.ChangeVars
import Derived.JoinedOf
import Derived.SevenTiedAt
import Derived.ChangeMaps5
import Derived.ChangeArms
import Derived.Carry
set_option linter.unusedVariables false
set_option linter.unusedSimpArgs false
namespace Go.Proofs.power
open Go Go.Num Go.Fra
theorem exE_at {k : Nat} {r : Rat} (h : Szq k r) (hk : k ≤ 100) {p q : Nat} (p1 : 1 ≤ p) (p36 : p ≤ 36) (q1 : 1 ≤ q) (q12 : q ≤ 12) : exE (Fr.of r) (p : Int) (q : Int) = exQ r p q := by
 have h0 := h.1
 unfold exE
 rw [rd_of (h.ok hk)]
 simp only
 rw [if_neg]
 ·rfl
 ·rw [eok_nat p1 p36 q1 q12]
  simp only [Bool.true_eq_false, false_or]
  grind
theorem mulF_at {k m : Nat} {r s : Rat} (h : Szq k r) (i : Szq m s) (hk : k + m ≤ 100) : mulF (Fr.of r) (Fr.of s) = (Fr.of (r * s), 0) := by
 unfold mulF
 rw [bin_some (rd_of (h.ok (by omega))) (rd_of (i.ok (by omega)))]
 exact wr_of (h.mul i) hk
theorem absF_at {q : Rat} (h : okq q = true) : frac.absF (Fr.of q) = wr (frac.absQ q) := by
 unfold frac.absF
 rw [rd_of h]
theorem absQ_sz {q : Rat} (h1 : q.num.natAbs ≤ 999) (h2 : q.den ≤ 60) : Szq 1 (frac.absQ q) := by
 refine ⟨frac.absQ_nonneg q, ?_, ?_⟩
 ·rw [show (frac.absQ q).num.natAbs = q.num.natAbs from Int.natAbs_natCast _]
  omega
 ·show q.den ≤ 1000 ^ 1
  omega
end Go.Proofs.power
namespace Go.Proofs.verdigrislaw04
open Go Go.RowKit Go.SW Go.Num Go.Mem Go.Proofs Go.Dec Go.Fra Go.Proofs.power Go.Proofs.verdigrisref01
/-- A call that returns a fraction and an error in every world that has the table. -/
def RetF (f : FuncId) (args : Array Value) (x : Fr × Int) : Prop := ∀ W, Bld.Pow W → Calls Tryz.prog f args W (fun e w' => e = .returned (Fr.res x) ∧ Below W.heap.size W w')
set_option maxRecDepth 100000 in
set_option maxHeartbeats 8000000 in
theorem PowerProducts_ok (f1 f2 f3 f4 : Bool) (v1 v2 v3 v4 : Value) (z1 z2 z3 z4 p k : Int) (p0 : 0 ≤ p) (p1 : p ≤ 255) (k0 : 0 ≤ k) (k1 : k ≤ 255) (w : World) (h1 : Words w v1) (h2 : Words w v2) (h3 : Words w v3) (h4 : Words w v4) (ht : Bld.Pow w) (he : whole.Er w) :
  Calls Tryz.prog 8 #[.agg #[.bool f1, v1, .int .u16 z1, .bool f2, v2, .int .u16 z2], .agg #[.bool f3, v3, .int .u16 z3, .bool f4, v4, .int .u16 z4], .int .u8 p, .int .u8 k] w (fun e w' => e = .returned (.bool true) ∧ Below w.heap.size w w') := by
 have HP := Lib.hid ht
 have HE := Lib.hid he
 have HW := Lib.hid (fun W h1 h2 => works_ok W h1 h2)
 obtain ⟨x, ⟨x1, x2, x3⟩, SX⟩ := verdigrisref02.Short_sm f1 f2 v1 v2 z1 z2 w h1 h2
 obtain ⟨y, ⟨y1, y2, y3⟩, SY⟩ := verdigrisref02.Short_sm f3 f4 v3 v4 z3 z4 w h3 h4
 obtain ⟨a1, n1, c1, U1, rfl, -⟩ := h1
 obtain ⟨a2, n2, c2, U2, rfl, -⟩ := h2
 obtain ⟨a3, n3, c3, U3, rfl, -⟩ := h3
 obtain ⟨a4, n4, c4, U4, rfl, -⟩ := h4
 have SX := Lib.hid SX
 have SY := Lib.hid SY
 clear ht he
 obtain ⟨m, em⟩ : ∃ m : Nat, 1 + p % 6 = (m : Int) := ⟨(1 + p % 6).toNat, by omega⟩
 obtain ⟨n, en⟩ : ∃ n : Nat, 1 + k % 6 = (n : Int) := ⟨(1 + k % 6).toNat, by omega⟩
 have n1' : 1 ≤ n := by omega
 have n6 : n ≤ 6 := by omega
 have m1' : 1 ≤ m := by omega
 have m6 : m ≤ 6 := by omega
 have sa := absQ_sz x2 x3
 have sc := absQ_sz y2 y3
 have AX : Hid (RetF 34 #[(Fr.of x).v] (Fr.of (frac.absQ x), 0)) := Lib.hid fun W h => by
  have := frac.Abs_ok (Fr.of x) W h
  rw [absF_at x1, wr_of sa (by omega)] at this
  exact this
 have AY : Hid (RetF 34 #[(Fr.of y).v] (Fr.of (frac.absQ y), 0)) := Lib.hid fun W h => by
  have := frac.Abs_ok (Fr.of y) W h
  rw [absF_at y1, wr_of sc (by omega)] at this
  exact this
 obtain ⟨a, Ea⟩ : ∃ a, frac.absQ x = a := ⟨_, rfl⟩
 obtain ⟨c, Ec⟩ : ∃ c, frac.absQ y = c := ⟨_, rfl⟩
 rw [Ea] at AX sa
 rw [Ec] at AY sc
 clear Ea Ec x1 x2 x3 y1 y2 y3
 have hm := rmul_pow a c
 have sap := (sa.pow m).mono (show 1 * m ≤ 6 by omega)
 have saq := (sa.pow n).mono (show 1 * n ≤ 6 by omega)
 have scp := (sc.pow m).mono (show 1 * m ≤ 6 by omega)
 have scq := (sc.pow n).mono (show 1 * n ≤ 6 by omega)
 have sac := sa.mul sc
 have sw := (sac.pow n).mono (show 2 * n ≤ 12 by omega)
 have so := (sac.pow m).mono (show 2 * m ≤ 12 by omega)
 have P2 : Hid (RetF 35 #[(Fr.of a).v, .int .i64 (m : Int)] (Fr.of (a ^ m), 0)) := Lib.hid fun W h => by
  have := frac.Pow_ok a m (sa.ok (by omega)) sa.1 (by omega) W h
  rw [wr_of sap (by omega)] at this
  exact this
 have P3 : Hid (RetF 35 #[(Fr.of a).v, .int .i64 (n : Int)] (Fr.of (a ^ n), 0)) := Lib.hid fun W h => by
  have := frac.Pow_ok a n (sa.ok (by omega)) sa.1 (by omega) W h
  rw [wr_of saq (by omega)] at this
  exact this
 have P4 : Hid (RetF 35 #[(Fr.of c).v, .int .i64 (n : Int)] (Fr.of (c ^ n), 0)) := Lib.hid fun W h => by
  have := frac.Pow_ok c n (sc.ok (by omega)) sc.1 (by omega) W h
  rw [wr_of scq (by omega)] at this
  exact this
 have M1 : Hid (RetF 36 #[(Fr.of (a ^ n)).v, (Fr.of (c ^ n)).v] (Fr.of ((a * c) ^ n), 0)) := Lib.hid fun W h => by
  have := frac.Mul_ok (Fr.of (a ^ n)) (Fr.of (c ^ n)) W h
  rw [mulF_at saq scq (by omega), ← hm] at this
  exact this
 have M2 : Hid (RetF 36 #[(Fr.of (a ^ m)).v, (Fr.of (c ^ m)).v] (Fr.of ((a * c) ^ m), 0)) := Lib.hid fun W h => by
  have := frac.Mul_ok (Fr.of (a ^ m)) (Fr.of (c ^ m)) W h
  rw [mulF_at sap scp (by omega), ← hm] at this
  exact this
 have E2 : Hid (RetF 23 #[(Fr.of (a ^ n)).v, .int .i64 (m : Int), .int .i64 (n : Int)] (Fr.of (a ^ m), 0)) := Lib.hid fun W h => by
  have := power.Exact_ok (Fr.of (a ^ n)) (m : Int) (n : Int) W h
  rw [exE_at saq (by omega) m1' (by omega) n1' (by omega), exQ_pow sa.1 (by omega), wr_of sap (by omega)] at this
  exact this
 have E3 : Hid (RetF 23 #[(Fr.of (c ^ n)).v, .int .i64 (m : Int), .int .i64 (n : Int)] (Fr.of (c ^ m), 0)) := Lib.hid fun W h => by
  have := power.Exact_ok (Fr.of (c ^ n)) (m : Int) (n : Int) W h
  rw [exE_at scq (by omega) m1' (by omega) n1' (by omega), exQ_pow sc.1 (by omega), wr_of scp (by omega)] at this
  exact this
 have E4 : Hid (RetF 23 #[(Fr.of ((a * c) ^ n)).v, .int .i64 (m : Int), .int .i64 (n : Int)] (Fr.of ((a * c) ^ m), 0)) := Lib.hid fun W h => by
  have := power.Exact_ok (Fr.of ((a * c) ^ n)) (m : Int) (n : Int) W h
  rw [exE_at sw (by omega) m1' (by omega) n1' (by omega), exQ_pow sac.1 (by omega), wr_of so (by omega)] at this
  exact this
 have E1 : (∃ r, Hid (RetF 23 #[(Fr.of a).v, .int .i64 (m : Int), .int .i64 (n : Int)] (Fr.of r, 0)) ∧ Hid (RetF 35 #[(Fr.of r).v, .int .i64 (n : Int)] (Fr.of (a ^ m), 0))) ∨ Hid (RetF 23 #[(Fr.of a).v, .int .i64 (m : Int), .int .i64 (n : Int)] (Fr.no, 4)) := by
  rcases exQ_back sa m1' m6 (show 0 < n by omega) with ⟨r, sr, e1, e2⟩ | e1
  ·refine Or.inl ⟨r, Lib.hid fun W h => ?_, Lib.hid fun W h => ?_⟩
   ·have := power.Exact_ok (Fr.of a) (m : Int) (n : Int) W h
    rw [exE_at sa (by omega) m1' (by omega) n1' (by omega), e1, wr_of sr (by omega)] at this
    exact this
   ·have := frac.Pow_ok r n (sr.ok (by omega)) sr.1 (by omega) W h
    rw [e2, wr_of sap (by omega)] at this
    exact this
  ·refine Or.inr (Lib.hid fun W h => ?_)
   have := power.Exact_ok (Fr.of a) (m : Int) (n : Int) W h
   rw [exE_at sa (by omega) m1' (by omega) n1' (by omega), e1] at this
   exact this
 clear sap saq scp scq sac sw so sa sc hm
 generalize Fr.of ((a * c) ^ n) = fW at *
 obtain ⟨sW, tW⟩ := fW
 generalize Fr.of ((a * c) ^ m) = fO at *
 obtain ⟨sO, tO⟩ := fO
 generalize Fr.of (a ^ n) = fAQ at *
 obtain ⟨sAQ, tAQ⟩ := fAQ
 generalize Fr.of (c ^ n) = fCQ at *
 obtain ⟨sCQ, tCQ⟩ := fCQ
 generalize Fr.of (a ^ m) = fAP at *
 obtain ⟨sAP, tAP⟩ := fAP
 generalize Fr.of (c ^ m) = fCP at *
 obtain ⟨sCP, tCP⟩ := fCP
 generalize Fr.of (a) = fA at *
 obtain ⟨sA, tA⟩ := fA
 generalize Fr.of (c) = fC at *
 obtain ⟨sC, tC⟩ := fC
 generalize Fr.of (x) = fX at *
 obtain ⟨sX, tX⟩ := fX
 generalize Fr.of (y) = fY at *
 obtain ⟨sY, tY⟩ := fY
 unfold RetF at *
 simp only [res_mk, Fr.v, Fr.no] at *
 go_enter Tryz.func8, Tryz.ntmps8
 go_wp2_with fail
 obtain ⟨wx, EW, hz, B4, B5⟩ := al2 w #[.bool f1, .slice a1 n1 c1, .int .u16 z1, .bool f2, .slice a2 n2 c2, .int .u16 z2] 46 #[.bool f3, .slice a3 n3 c3, .int .u16 z3, .bool f4, .slice a4 n4 c4, .int .u16 z4] 46
 rw [EW]
 clear EW
 have HB := Lib.hid hz
 clear hz
 refine (HW.out _ (HP.out.later HB.out) (HE.out.later HB.out)).mono ?_
 rintro e u ⟨rfl, h⟩
 replace B4 := B4.bl h
 replace B5 := B5.bl h
 replace HB := Lib.hid (Bt HB.out h)
 clear h
 obtain ⟨cB4, lB4⟩ := B4.cl
 obtain ⟨cB5, lB5⟩ := B5.cl
 go_wp2_with fail
 clear cB4 lB4 cB5 lB5
 refine (SX.out _ HB.out).mono ?_
 rintro e u ⟨rfl, h⟩
 replace B4 := B4.bl h
 replace B5 := B5.bl h
 replace HB := Lib.hid (Bt HB.out h)
 clear h
 obtain ⟨cB4, lB4⟩ := B4.cl
 obtain ⟨cB5, lB5⟩ := B5.cl
 go_wp2_with fail
 clear cB4 lB4 cB5 lB5
 refine (AX.out _ (HP.out.later HB.out)).mono ?_
 rintro e u ⟨rfl, h⟩
 replace B4 := B4.bl h
 replace B5 := B5.bl h
 replace HB := Lib.hid (Bt HB.out h)
 clear h
 obtain ⟨cB4, lB4⟩ := B4.cl
 obtain ⟨cB5, lB5⟩ := B5.cl
 go_wp2_with fail
 clear cB4 lB4 cB5 lB5
 obtain ⟨wy, EW, hz, B9⟩ := al1 u #[.string sA, .string tA] 40
 rw [EW]
 clear EW
 replace B4 := B4.bl hz
 replace B5 := B5.bl hz
 replace HB := Lib.hid (Bt HB.out hz)
 clear hz
 refine (SY.out _ HB.out).mono ?_
 rintro e u ⟨rfl, h⟩
 replace B4 := B4.bl h
 replace B5 := B5.bl h
 replace B9 := B9.bl h
 replace HB := Lib.hid (Bt HB.out h)
 clear h
 obtain ⟨cB4, lB4⟩ := B4.cl
 obtain ⟨cB5, lB5⟩ := B5.cl
 obtain ⟨cB9, lB9⟩ := B9.cl
 go_wp2_with fail
 clear cB4 lB4 cB5 lB5 cB9 lB9
 refine (AY.out _ (HP.out.later HB.out)).mono ?_
 rintro e u ⟨rfl, h⟩
 replace B4 := B4.bl h
 replace B5 := B5.bl h
 replace B9 := B9.bl h
 replace HB := Lib.hid (Bt HB.out h)
 clear h
 obtain ⟨cB4, lB4⟩ := B4.cl
 obtain ⟨cB5, lB5⟩ := B5.cl
 obtain ⟨cB9, lB9⟩ := B9.cl
 go_wp2_with fail
 clear cB4 lB4 cB5 lB5 cB9 lB9
 obtain ⟨wy, EW, hz, B11⟩ := al1 u #[.string sC, .string tC] 40
 rw [EW]
 clear EW
 replace B4 := B4.bl hz
 replace B5 := B5.bl hz
 replace B9 := B9.bl hz
 replace HB := Lib.hid (Bt HB.out hz)
 clear hz
 clear B4 B5
 clear SX SY AX AY HW
 rcases E1 with ⟨r, E1, P1⟩ | E1
 ·obtain ⟨⟨sR, tR⟩, ER⟩ : ∃ y, Fr.of r = y := ⟨_, rfl⟩
  rw [ER] at E1 P1
  clear ER
  simp only [res_mk, Fr.v] at E1 P1
  refine (E1.out _ (HP.out.later HB.out)).mono ?_
  rintro e u ⟨rfl, h⟩
  replace B9 := B9.bl h
  replace B11 := B11.bl h
  replace HB := Lib.hid (Bt HB.out h)
  clear h
  obtain ⟨cB9, lB9⟩ := B9.cl
  obtain ⟨cB11, lB11⟩ := B11.cl
  go_wp2_with fail
  clear cB9 lB9 cB11 lB11
  obtain ⟨wy, EW, hz, B15⟩ := al1 u #[.string sR, .string tR] 40
  rw [EW]
  clear EW
  replace B9 := B9.bl hz
  replace B11 := B11.bl hz
  replace HB := Lib.hid (Bt HB.out hz)
  clear hz
  refine (P1.out _ (HP.out.later HB.out)).mono ?_
  rintro e u ⟨rfl, h⟩
  replace B9 := B9.bl h
  replace B11 := B11.bl h
  replace B15 := B15.bl h
  replace HB := Lib.hid (Bt HB.out h)
  clear h
  obtain ⟨cB9, lB9⟩ := B9.cl
  obtain ⟨cB11, lB11⟩ := B11.cl
  obtain ⟨cB15, lB15⟩ := B15.cl
  go_wp2_with fail
  clear cB9 lB9 cB11 lB11 cB15 lB15
  obtain ⟨wy, EW, hz, B17⟩ := al1 u #[.string sAP, .string tAP] 40
  rw [EW]
  clear EW
  replace B9 := B9.bl hz
  replace B11 := B11.bl hz
  replace B15 := B15.bl hz
  replace HB := Lib.hid (Bt HB.out hz)
  clear hz
  clear B15
  refine (P2.out _ (HP.out.later HB.out)).mono ?_
  rintro e u ⟨rfl, h⟩
  replace B9 := B9.bl h
  replace B11 := B11.bl h
  replace B17 := B17.bl h
  replace HB := Lib.hid (Bt HB.out h)
  clear h
  obtain ⟨cB9, lB9⟩ := B9.cl
  obtain ⟨cB11, lB11⟩ := B11.cl
  obtain ⟨cB17, lB17⟩ := B17.cl
  go_wp2_with fail
  clear cB9 lB9 cB11 lB11 cB17 lB17
  obtain ⟨wy, EW, hz, B19⟩ := al1 u #[.string sAP, .string tAP] 40
  rw [EW]
  clear EW B19 B17
  replace B9 := B9.bl hz
  replace B11 := B11.bl hz
  replace HB := Lib.hid (Bt HB.out hz)
  clear hz
  refine (P3.out _ (HP.out.later HB.out)).mono ?_
  rintro e u ⟨rfl, h⟩
  replace B9 := B9.bl h
  replace B11 := B11.bl h
  replace HB := Lib.hid (Bt HB.out h)
  clear h
  obtain ⟨cB9, lB9⟩ := B9.cl
  obtain ⟨cB11, lB11⟩ := B11.cl
  go_wp2_with fail
  clear cB9 lB9 cB11 lB11
  obtain ⟨wy, EW, hz, B21⟩ := al1 u #[.string sAQ, .string tAQ] 40
  rw [EW]
  clear EW
  replace B9 := B9.bl hz
  replace B11 := B11.bl hz
  replace HB := Lib.hid (Bt HB.out hz)
  clear hz
  refine (P4.out _ (HP.out.later HB.out)).mono ?_
  rintro e u ⟨rfl, h⟩
  replace B9 := B9.bl h
  replace B11 := B11.bl h
  replace B21 := B21.bl h
  replace HB := Lib.hid (Bt HB.out h)
  clear h
  obtain ⟨cB9, lB9⟩ := B9.cl
  obtain ⟨cB11, lB11⟩ := B11.cl
  obtain ⟨cB21, lB21⟩ := B21.cl
  go_wp2_with fail
  clear cB9 lB9 cB11 lB11 cB21 lB21
  obtain ⟨wy, EW, hz, B22⟩ := al1 u #[.string sCQ, .string tCQ] 40
  rw [EW]
  clear EW
  replace B9 := B9.bl hz
  replace B11 := B11.bl hz
  replace B21 := B21.bl hz
  replace HB := Lib.hid (Bt HB.out hz)
  clear hz
  clear B11
  refine (M1.out _ (HP.out.later HB.out)).mono ?_
  rintro e u ⟨rfl, h⟩
  replace B9 := B9.bl h
  replace B21 := B21.bl h
  replace B22 := B22.bl h
  replace HB := Lib.hid (Bt HB.out h)
  clear h
  obtain ⟨cB9, lB9⟩ := B9.cl
  obtain ⟨cB21, lB21⟩ := B21.cl
  obtain ⟨cB22, lB22⟩ := B22.cl
  go_wp2_with fail
  clear cB9 lB9 cB21 lB21 cB22 lB22
  obtain ⟨wy, EW, hz, B23⟩ := al1 u #[.string sW, .string tW] 40
  rw [EW]
  clear EW
  replace B9 := B9.bl hz
  replace B21 := B21.bl hz
  replace B22 := B22.bl hz
  replace HB := Lib.hid (Bt HB.out hz)
  clear hz
  refine (E2.out _ (HP.out.later HB.out)).mono ?_
  rintro e u ⟨rfl, h⟩
  replace B9 := B9.bl h
  replace B21 := B21.bl h
  replace B22 := B22.bl h
  replace B23 := B23.bl h
  replace HB := Lib.hid (Bt HB.out h)
  clear h
  obtain ⟨cB9, lB9⟩ := B9.cl
  obtain ⟨cB21, lB21⟩ := B21.cl
  obtain ⟨cB22, lB22⟩ := B22.cl
  obtain ⟨cB23, lB23⟩ := B23.cl
  go_wp2_with fail
  clear cB9 lB9 cB21 lB21 cB22 lB22 cB23 lB23
  obtain ⟨wy, EW, hz, B24⟩ := al1 u #[.string sAP, .string tAP] 40
  rw [EW]
  clear EW
  replace B9 := B9.bl hz
  replace B21 := B21.bl hz
  replace B22 := B22.bl hz
  replace B23 := B23.bl hz
  replace HB := Lib.hid (Bt HB.out hz)
  clear hz
  clear B21
  refine (E3.out _ (HP.out.later HB.out)).mono ?_
  rintro e u ⟨rfl, h⟩
  replace B9 := B9.bl h
  replace B22 := B22.bl h
  replace B23 := B23.bl h
  replace B24 := B24.bl h
  replace HB := Lib.hid (Bt HB.out h)
  clear h
  obtain ⟨cB9, lB9⟩ := B9.cl
  obtain ⟨cB22, lB22⟩ := B22.cl
  obtain ⟨cB23, lB23⟩ := B23.cl
  obtain ⟨cB24, lB24⟩ := B24.cl
  go_wp2_with fail
  clear cB9 lB9 cB22 lB22 cB23 lB23 cB24 lB24
  obtain ⟨wy, EW, hz, B26⟩ := al1 u #[.string sCP, .string tCP] 40
  rw [EW]
  clear EW
  replace B9 := B9.bl hz
  replace B22 := B22.bl hz
  replace B23 := B23.bl hz
  replace B24 := B24.bl hz
  replace HB := Lib.hid (Bt HB.out hz)
  clear hz
  clear B22
  refine (E4.out _ (HP.out.later HB.out)).mono ?_
  rintro e u ⟨rfl, h⟩
  replace B9 := B9.bl h
  replace B23 := B23.bl h
  replace B24 := B24.bl h
  replace B26 := B26.bl h
  replace HB := Lib.hid (Bt HB.out h)
  clear h
  obtain ⟨cB9, lB9⟩ := B9.cl
  obtain ⟨cB23, lB23⟩ := B23.cl
  obtain ⟨cB24, lB24⟩ := B24.cl
  obtain ⟨cB26, lB26⟩ := B26.cl
  go_wp2_with fail
  clear cB9 lB9 cB23 lB23 cB24 lB24 cB26 lB26
  obtain ⟨wy, EW, hz, B28⟩ := al1 u #[.string sO, .string tO] 40
  rw [EW]
  clear EW
  replace B9 := B9.bl hz
  replace B23 := B23.bl hz
  replace B24 := B24.bl hz
  replace B26 := B26.bl hz
  replace HB := Lib.hid (Bt HB.out hz)
  clear hz
  clear B23
  refine (M2.out _ (HP.out.later HB.out)).mono ?_
  rintro e u ⟨rfl, h⟩
  replace B9 := B9.bl h
  replace B24 := B24.bl h
  replace B26 := B26.bl h
  replace B28 := B28.bl h
  replace HB := Lib.hid (Bt HB.out h)
  clear h
  obtain ⟨cB9, lB9⟩ := B9.cl
  obtain ⟨cB24, lB24⟩ := B24.cl
  obtain ⟨cB26, lB26⟩ := B26.cl
  obtain ⟨cB28, lB28⟩ := B28.cl
  go_wp2_with fail
  clear cB9 lB9 cB24 lB24 cB26 lB26 cB28 lB28
  obtain ⟨wy, EW, hz, B30⟩ := al1 u #[.string sO, .string tO] 40
  rw [EW]
  clear EW
  replace B9 := B9.bl hz
  replace B24 := B24.bl hz
  replace B26 := B26.bl hz
  replace B28 := B28.bl hz
  replace HB := Lib.hid (Bt HB.out hz)
  clear hz
  clear B26
  refine (P2.out _ (HP.out.later HB.out)).mono ?_
  rintro e u ⟨rfl, h⟩
  replace B9 := B9.bl h
  replace B24 := B24.bl h
  replace B28 := B28.bl h
  replace B30 := B30.bl h
  replace HB := Lib.hid (Bt HB.out h)
  clear h
  obtain ⟨cB9, lB9⟩ := B9.cl
  obtain ⟨cB24, lB24⟩ := B24.cl
  obtain ⟨cB28, lB28⟩ := B28.cl
  obtain ⟨cB30, lB30⟩ := B30.cl
  have hw := HB.out
  go_wp2_with fail
  go_ret
  exact ⟨by simp, belA⟩
 ·refine (E1.out _ (HP.out.later HB.out)).mono ?_
  rintro e u ⟨rfl, h⟩
  replace B9 := B9.bl h
  replace B11 := B11.bl h
  replace HB := Lib.hid (Bt HB.out h)
  clear h
  obtain ⟨cB9, lB9⟩ := B9.cl
  obtain ⟨cB11, lB11⟩ := B11.cl
  go_wp2_with fail
  clear cB9 lB9 cB11 lB11
  obtain ⟨wy, EW, hz, B15⟩ := al1 u #[.string ⟨#[]⟩, .string ⟨#[]⟩] 40
  rw [EW]
  clear EW B15
  replace B9 := B9.bl hz
  replace B11 := B11.bl hz
  replace HB := Lib.hid (Bt HB.out hz)
  clear hz
  refine (P3.out _ (HP.out.later HB.out)).mono ?_
  rintro e u ⟨rfl, h⟩
  replace B9 := B9.bl h
  replace B11 := B11.bl h
  replace HB := Lib.hid (Bt HB.out h)
  clear h
  obtain ⟨cB9, lB9⟩ := B9.cl
  obtain ⟨cB11, lB11⟩ := B11.cl
  go_wp2_with fail
  clear cB9 lB9 cB11 lB11
  obtain ⟨wy, EW, hz, B21⟩ := al1 u #[.string sAQ, .string tAQ] 40
  rw [EW]
  clear EW
  replace B9 := B9.bl hz
  replace B11 := B11.bl hz
  replace HB := Lib.hid (Bt HB.out hz)
  clear hz
  refine (P4.out _ (HP.out.later HB.out)).mono ?_
  rintro e u ⟨rfl, h⟩
  replace B9 := B9.bl h
  replace B11 := B11.bl h
  replace B21 := B21.bl h
  replace HB := Lib.hid (Bt HB.out h)
  clear h
  obtain ⟨cB9, lB9⟩ := B9.cl
  obtain ⟨cB11, lB11⟩ := B11.cl
  obtain ⟨cB21, lB21⟩ := B21.cl
  go_wp2_with fail
  clear cB9 lB9 cB11 lB11 cB21 lB21
  obtain ⟨wy, EW, hz, B22⟩ := al1 u #[.string sCQ, .string tCQ] 40
  rw [EW]
  clear EW
  replace B9 := B9.bl hz
  replace B11 := B11.bl hz
  replace B21 := B21.bl hz
  replace HB := Lib.hid (Bt HB.out hz)
  clear hz
  clear B11
  refine (M1.out _ (HP.out.later HB.out)).mono ?_
  rintro e u ⟨rfl, h⟩
  replace B9 := B9.bl h
  replace B21 := B21.bl h
  replace B22 := B22.bl h
  replace HB := Lib.hid (Bt HB.out h)
  clear h
  obtain ⟨cB9, lB9⟩ := B9.cl
  obtain ⟨cB21, lB21⟩ := B21.cl
  obtain ⟨cB22, lB22⟩ := B22.cl
  go_wp2_with fail
  clear cB9 lB9 cB21 lB21 cB22 lB22
  obtain ⟨wy, EW, hz, B23⟩ := al1 u #[.string sW, .string tW] 40
  rw [EW]
  clear EW
  replace B9 := B9.bl hz
  replace B21 := B21.bl hz
  replace B22 := B22.bl hz
  replace HB := Lib.hid (Bt HB.out hz)
  clear hz
  refine (E2.out _ (HP.out.later HB.out)).mono ?_
  rintro e u ⟨rfl, h⟩
  replace B9 := B9.bl h
  replace B21 := B21.bl h
  replace B22 := B22.bl h
  replace B23 := B23.bl h
  replace HB := Lib.hid (Bt HB.out h)
  clear h
  obtain ⟨cB9, lB9⟩ := B9.cl
  obtain ⟨cB21, lB21⟩ := B21.cl
  obtain ⟨cB22, lB22⟩ := B22.cl
  obtain ⟨cB23, lB23⟩ := B23.cl
  go_wp2_with fail
  clear cB9 lB9 cB21 lB21 cB22 lB22 cB23 lB23
  obtain ⟨wy, EW, hz, B24⟩ := al1 u #[.string sAP, .string tAP] 40
  rw [EW]
  clear EW
  replace B9 := B9.bl hz
  replace B21 := B21.bl hz
  replace B22 := B22.bl hz
  replace B23 := B23.bl hz
  replace HB := Lib.hid (Bt HB.out hz)
  clear hz
  clear B21
  refine (E3.out _ (HP.out.later HB.out)).mono ?_
  rintro e u ⟨rfl, h⟩
  replace B9 := B9.bl h
  replace B22 := B22.bl h
  replace B23 := B23.bl h
  replace B24 := B24.bl h
  replace HB := Lib.hid (Bt HB.out h)
  clear h
  obtain ⟨cB9, lB9⟩ := B9.cl
  obtain ⟨cB22, lB22⟩ := B22.cl
  obtain ⟨cB23, lB23⟩ := B23.cl
  obtain ⟨cB24, lB24⟩ := B24.cl
  go_wp2_with fail
  clear cB9 lB9 cB22 lB22 cB23 lB23 cB24 lB24
  obtain ⟨wy, EW, hz, B26⟩ := al1 u #[.string sCP, .string tCP] 40
  rw [EW]
  clear EW
  replace B9 := B9.bl hz
  replace B22 := B22.bl hz
  replace B23 := B23.bl hz
  replace B24 := B24.bl hz
  replace HB := Lib.hid (Bt HB.out hz)
  clear hz
  clear B22
  refine (E4.out _ (HP.out.later HB.out)).mono ?_
  rintro e u ⟨rfl, h⟩
  replace B9 := B9.bl h
  replace B23 := B23.bl h
  replace B24 := B24.bl h
  replace B26 := B26.bl h
  replace HB := Lib.hid (Bt HB.out h)
  clear h
  obtain ⟨cB9, lB9⟩ := B9.cl
  obtain ⟨cB23, lB23⟩ := B23.cl
  obtain ⟨cB24, lB24⟩ := B24.cl
  obtain ⟨cB26, lB26⟩ := B26.cl
  go_wp2_with fail
  clear cB9 lB9 cB23 lB23 cB24 lB24 cB26 lB26
  obtain ⟨wy, EW, hz, B28⟩ := al1 u #[.string sO, .string tO] 40
  rw [EW]
  clear EW
  replace B9 := B9.bl hz
  replace B23 := B23.bl hz
  replace B24 := B24.bl hz
  replace B26 := B26.bl hz
  replace HB := Lib.hid (Bt HB.out hz)
  clear hz
  clear B23
  refine (M2.out _ (HP.out.later HB.out)).mono ?_
  rintro e u ⟨rfl, h⟩
  replace B9 := B9.bl h
  replace B24 := B24.bl h
  replace B26 := B26.bl h
  replace B28 := B28.bl h
  replace HB := Lib.hid (Bt HB.out h)
  clear h
  obtain ⟨cB9, lB9⟩ := B9.cl
  obtain ⟨cB24, lB24⟩ := B24.cl
  obtain ⟨cB26, lB26⟩ := B26.cl
  obtain ⟨cB28, lB28⟩ := B28.cl
  go_wp2_with fail
  clear cB9 lB9 cB24 lB24 cB26 lB26 cB28 lB28
  obtain ⟨wy, EW, hz, B30⟩ := al1 u #[.string sO, .string tO] 40
  rw [EW]
  clear EW
  replace B9 := B9.bl hz
  replace B24 := B24.bl hz
  replace B26 := B26.bl hz
  replace B28 := B28.bl hz
  replace HB := Lib.hid (Bt HB.out hz)
  clear hz
  clear B26
  refine (P2.out _ (HP.out.later HB.out)).mono ?_
  rintro e u ⟨rfl, h⟩
  replace B9 := B9.bl h
  replace B24 := B24.bl h
  replace B28 := B28.bl h
  replace B30 := B30.bl h
  replace HB := Lib.hid (Bt HB.out h)
  clear h
  obtain ⟨cB9, lB9⟩ := B9.cl
  obtain ⟨cB24, lB24⟩ := B24.cl
  obtain ⟨cB28, lB28⟩ := B28.cl
  obtain ⟨cB30, lB30⟩ := B30.cl
  have hw := HB.out
  go_wp2_with fail
  go_ret
  exact ⟨by simp, belA⟩
end Go.Proofs.verdigrislaw04
namespace Go.Proofs.YtpoecfpbafpokaaGreatDoor
open Go Go.ChangeShapes Go.WideShapes Go.ChangeAt Go.RowKit Go.Proofs
/-- The door's own heap meets the condition. -/
theorem door_metJ (os : Os) (args : Array Value) : laidMetH Tryz.prog Rows.powerProductsRow.laid ((World.doorLaid Tryz.prog 4000 os).forCall (fun _ _ => 0) ⟨#[], args, []⟩).memory := by
 rw [MakeChecks.laidMetH_plain _ _ _ (by kernel_rfl)]
 exact laidMet_of_run' 8 (by kernel_rfl) (by kernel_rfl)
theorem laidOut5 : laidOutB Tryz.prog = true := by kernel_rfl
theorem args4 {H : Type} {enc : TypeId × Value → H} {P : Program} {w : World} {base : Nat} {sp : Nat → Bool} {held : Bool} {t t1 t2 t3 : TypeId} {args : Array Value} {ds : List (DataW H)} {ps : List MemPlace} (h : DataW.TrodAll enc P w base sp held [t, t1, t2, t3] args.toList ds ps) :
  ∃ v v1 v2 v3 d d1 d2 d3 p p1 p2 p3, args = #[v, v1, v2, v3] ∧ ds = [d, d1, d2, d3] ∧ ps = p ++ p1 ++ p2 ++ p3 ∧ DataW.Trod enc P w base sp held t v d p ∧ DataW.Trod enc P w base sp held t1 v1 d1 p1 ∧ DataW.Trod enc P w base sp held t2 v2 d2 p2 ∧ DataW.Trod enc P w base sp held t3 v3 d3 p3 := by
 obtain ⟨v, vs, d, ds1, p, q, hargs, rfl, rfl, hd, hrest⟩ := trodAll_cons h
 obtain ⟨v1, vs1, d1, ds2, p1, q1, rfl, rfl, rfl, hd1, hrest1⟩ := trodAll_cons hrest
 obtain ⟨v2, vs2, d2, ds3, p2, q2, rfl, rfl, rfl, hd2, hrest2⟩ := trodAll_cons hrest1
 obtain ⟨v3, vs3, d3, ds4, p3, q3, rfl, rfl, rfl, hd3, hrest3⟩ := trodAll_cons hrest2
 obtain ⟨rfl, rfl, rfl⟩ := trodAll_nil hrest3
 exact ⟨v, v1, v2, v3, d, d1, d2, d3, p, p1, p2, p3, by cases args; simp_all, rfl, by simp, hd, hd1, hd2, hd3⟩
set_option maxRecDepth 100000 in
theorem powerProducts_lifted (os : Os) (started : os.Started) (H : Type) (enc : TypeId × Value → H) :
  ReturnsInHanded {} Tryz.checked os 8 .any (fun w args => (Rows.powerProductsSpec.pre enc Tryz.prog Tryz.f8 [] false w args ∧ laidMetH Tryz.prog Rows.powerProductsRow.laid w) ∧ sizedMet enc Tryz.prog Tryz.f8 (OpenSpec.ofChange Rows.powerProductsSpec) false w args)
   (Rows.powerProductsSpec.post enc Tryz.prog Tryz.f8 false true false false) := by
 refine returnsInHanded_of_change_and (C := Tryz.checked) (X := fun w _ => laidMetH Tryz.prog Rows.powerProductsRow.laid w) (fun _ _ _ hh h => h.of_heap hh) own started (by kernel_rfl) Tryz.func8
  (ChangeSpec.witness_shaped (enc := enc) (C := Tryz.checked) (os := os) (X := fun w _ => laidMetH Tryz.prog Rows.powerProductsRow.laid w) false (World.doorLaid Tryz.prog 4000 os) #[.agg #[.bool false, .slice none 0 0, .int .u16 0, .bool false, .slice none 0 0, .int .u16 0], .agg #[.bool false, .slice none 0 0, .int .u16 0, .bool false, .slice none 0 0, .int .u16 0], .int .u8 0, .int .u8 0] 8 rfl (World.shaped_of_RefB (by kernel_rfl) (by kernel_rfl)) (by kernel_rfl) (by kernel_rfl) (by kernel_rfl) (door_metJ os _)) ?_
 intro W base args ds gs before hval0 hW _ _ hL _
 have hW' := hW
 obtain ⟨p, q, hA0, hV, rfl, hfz, hnd⟩ := hW
 have hA : DataW.TrodAll enc Tryz.prog W 0 (fun _ => true) true Tryz.f8.params.toList args.toList ds p := hA0
 rw [Tryz.params8] at hA
 have hval : ∀ (j : Nat) t v, Tryz.f8.params[j]? = some t → args[j]? = some v → Value.okWide Tryz.prog W .any base t v := hval0
 rw [Tryz.params8] at hval
 obtain ⟨v0, v1, v2, v3, d0, d1, d2, d3, p0, p1, p2, p3, rfl, rfl, rfl, h0, h1, h2, h3⟩ := args4 hA
 obtain ⟨rfl, rfl⟩ := trodVars_none hV
 have h0k := h0
 have h1k := h1
 obtain ⟨f1, a1, n1, c1, z1, f2, a2, n2, c2, z2, rfl, w1, w2⟩ := opn_d2 (hval 0 46 v0 rfl rfl) h0
 obtain ⟨f3, a3, n3, c3, z3, f4, a4, n4, c4, z4, rfl, w3, w4⟩ := opn_d2 (hval 1 46 v1 rfl rfl) h1
 obtain ⟨n, rfl, rfl, rfl, wn⟩ := open_int Tryz.underlying5 (hval 2 5 v2 rfl rfl) h2
 obtain ⟨m, rfl, rfl, rfl, wm⟩ := open_int Tryz.underlying5 (hval 3 5 v3 rfl rfl) h3
 simp only [List.append_nil] at hW'
 have hlt : ∀ x ∈ p0 ++ p1, x.block < W.heap.size := fun x hx => hW'.lt x (by simpa using hx)
 have hlt0 : ∀ x ∈ p0, x.block < W.heap.size := fun x hx => hlt x (by simp [hx])
 have hlt1 : ∀ x ∈ p1, x.block < W.heap.size := fun x hx => hlt x (by simp [hx])
 obtain ⟨hp, hc⟩ := of_laid hL
 refine (verdigrislaw04.PowerProducts_ok f1 f2 f3 f4 _ _ _ _ z1 z2 z3 z4 n m (u8_wf wn).1 (u8_wf wn).2 (u8_wf wm).1 (u8_wf wm).2 W w1 w2 w3 w4 hp hc).mono fun e W' ⟨he, hb⟩ => ?_
 subst he
 refine ⟨_, rfl, _, _, _, [], p0 ++ p1, [], hW', ?_, ?_, ?_, hb.frame _, fun h => by cases h⟩
 ·exact trodAll_mk1 (shut_bool Tryz.underlying4 true)
 ·exact ⟨p0, p1, Below.trod laidOut5 (by kernel_rfl) (of_decide_eq_true (by kernel_rfl)) h0k hb hlt0, ⟨p1, [], Below.trod laidOut5 (by kernel_rfl) (of_decide_eq_true (by kernel_rfl)) h1k hb hlt1, trodAll_mk2 (shut_int Tryz.underlying5 wn) (shut_int Tryz.underlying5 wm), by simp⟩, rfl⟩
 ·rfl
theorem powerProducts_holds : Rows.PowerProductsSaid :=
 OpenClaim.holds_of_wide 8 Tryz.f8 rfl rfl rfl rfl rfl rfl rfl ⟨rfl, rfl, rfl, rfl, rfl⟩ rfl rfl rfl rfl rfl (by kernel_rfl) Tryz.func8 (by kernel_rfl)
  (of_decide_eq_true (by kernel_rfl)) (by unfold Func.isWrapper; first | (rw [if_pos (by decide +kernel)]; kernel_rfl) | (rw [if_neg (by decide +kernel)]; exact ⟨rfl, rfl⟩))
  (fun os started H enc _ => powerProducts_lifted os started H enc)
theorem wantsJ : Tryz.prog.wantsStandIn 46 = false := by kernel_rfl
theorem powerProducts_card : Rows.PowerProductsCardSaid :=
 Claim7.holds_tied_plain_at .later [] [.data, .data, .data, .sentinel, .sentinel] true (true, "bc1bf536eb06bf18bc4c231e9aa64150270bda42f4b23e044d7bfc9ab11b0e23") true
  powerProducts_holds (fun _ h => by cases h) (by kernel_rfl) (fun _ h => by cases h) powerProducts_row_tie rfl ⟨rfl, rfl⟩ (by kernel_rfl) rfl
  (fun f fn hf hfn => by
   obtain rfl : f = 8 := Option.some.inj ((show Tryz.prog.funcNamed "verdigris/verdigrislaw04.PowerProducts" = some 8 by kernel_rfl).symm.trans hf) |>.symm
   obtain rfl : fn = Tryz.f8 := (Option.some.inj (Tryz.func8.symm.trans hfn)).symm
   exact ⟨by kernel_rfl, fun j t ht => by
    rw [Tryz.params8] at ht
    have ht' : t = 46 ∨ t = 5 := by
     rcases j with _ | _ | _ | _ | j <;> simp at ht
     ·exact .inl ht.symm
     ·exact .inl ht.symm
     ·exact .inr ht.symm
     ·exact .inr ht.symm
    rcases ht' with rfl | rfl
    ·exact wantsJ
    ·exact wants8⟩)
  (by kernel_rfl)
end Go.Proofs.YtpoecfpbafpokaaGreatDoor
