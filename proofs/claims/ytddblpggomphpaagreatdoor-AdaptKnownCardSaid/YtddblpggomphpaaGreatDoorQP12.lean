/- verdigrislaw25.AdaptKnown returns true. Conditions: those of the given row. -/
import Derived.Test.YtddblpggomphpaaGreatDoorQP02
import Derived.Test.YtddblpggomphpaaGreatDoorQP11
import Derived.Test.YtddblpggomphpaaGreatDoorCards
import Derived.Test.YtddblpggomphpaaGreatDoorTie
import Derived.ChangeSame
import Derived.ChangeVars
import Derived.JoinedOf
import Derived.SevenTiedAt
set_option linter.unusedVariables false
set_option linter.unusedSimpArgs false
namespace Go.Proofs.verdigrislaw25
open Go Go.RowKit Go.SW Go.Num Go.Mem Go.Proofs Go.Dec Go.Fra

/-- The fraction n / d of small numbers. -/
def q2 (n d : Int) : Rat := (n : Rat) / (d : Rat)
def sm (n d : Int) : Bool := decide (-1000000 ≤ n) && decide (n ≤ 1000000) && decide (1 ≤ d) && decide (d ≤ 1000000) && okq (q2 n d)

set_option maxRecDepth 10000 in
set_option maxHeartbeats 1000000 in
theorem of_ok (n d : Int) (h : sm n d = true) (w : World) (ht : Bld.Pow w) :
    Calls Tryz.prog 22 #[.int .i64 n, .int .i64 d] w (fun e w' => e = .returned (Fr.of (q2 n d)).v ∧ Below w.heap.size w w') := by
  have h' := h
  unfold sm at h'
  simp only [Bool.and_eq_true, decide_eq_true_eq] at h'
  obtain ⟨⟨⟨⟨h1, h2⟩, h3⟩, h4⟩, h5⟩ := h'
  have HO := fun w' hb => frac.Of_ok n d (by omega) (by omega) (by omega) (by omega) w' (ht.later hb)
  have e1 : Fr.res (ofF n d) = .tuple #[(Fr.of (q2 n d)).v, .int .i64 0] := by
    unfold ofF
    rw [if_neg (by omega)]
    show Fr.res (Fra.wr (q2 n d)) = _
    unfold Fra.wr
    rw [if_pos h5]
    rfl
  rw [e1] at HO
  have HOF := Lib.hid HO
  obtain ⟨⟨s, t⟩, E⟩ : ∃ y : Fr, Hid (Fr.of (q2 n d) = y) := ⟨_, Lib.hid rfl⟩
  rw [E.out] at HOF ⊢
  unfold Fr.v at HOF ⊢
  have h0 : Below w.heap.size w (w.alloc (.cells #[.string ⟨#[]⟩, .string ⟨#[]⟩] 36)) := belA
  have hx := Box.new w #[.string ⟨#[]⟩, .string ⟨#[]⟩] 36
  clear HO h h1 h2 h3 h4 h5 e1 ht E
  go_enter Tryz.func22, Tryz.ntmps22
  go_wp2_with fail
  refine (HOF.out _ h0).mono ?_
  rintro e w1 ⟨rfl, hb1⟩
  have hr := hx.later hb1
  have cr := hr.cell
  have fr := hr.free
  have lr := hr.lt
  go_wp2_with fail
  refine ret_c rfl rfl boxA Tryz.underlying36 rfl (by kernel_rfl) ?_
  exact ⟨rfl, belA⟩

/-- Three small fractions over one denominator. -/
def tq (x y z d : Int) : light.Tri := ⟨Fr.of (q2 x d), Fr.of (q2 y d), Fr.of (q2 z d)⟩
set_option maxRecDepth 10000 in
set_option maxHeartbeats 1000000 in
theorem tri_ok (x y z d : Int) (hx : sm x d = true) (hy : sm y d = true) (hz : sm z d = true) (w : World) (ht : Bld.Pow w) :
    Calls Tryz.prog 26 #[.int .i64 x, .int .i64 y, .int .i64 z, .int .i64 d] w (fun e w' => e = .returned (tq x y z d).v ∧ Below w.heap.size w w') := by
  have H1 := Lib.hid (fun w' (hb : Below w.heap.size w w') => of_ok x d hx w' (ht.later hb))
  have H2 := Lib.hid (fun w' (hb : Below w.heap.size w w') => of_ok y d hy w' (ht.later hb))
  have H3 := Lib.hid (fun w' (hb : Below w.heap.size w w') => of_ok z d hz w' (ht.later hb))
  unfold tq
  obtain ⟨⟨s1, s2⟩, E1⟩ : ∃ y : Fr, Hid (Fr.of (q2 x d) = y) := ⟨_, Lib.hid rfl⟩
  obtain ⟨⟨s3, s4⟩, E2⟩ : ∃ u : Fr, Hid (Fr.of (q2 y d) = u) := ⟨_, Lib.hid rfl⟩
  obtain ⟨⟨s5, s6⟩, E3⟩ : ∃ y : Fr, Hid (Fr.of (q2 z d) = y) := ⟨_, Lib.hid rfl⟩
  rw [E1.out, E2.out, E3.out]
  rw [E1.out] at H1
  rw [E2.out] at H2
  rw [E3.out] at H3
  unfold Fr.v at H1 H2 H3
  unfold light.Tri.v light.Tri.cells
  have h0 : Below w.heap.size w (w.alloc (.cells #[.string ⟨#[]⟩, .string ⟨#[]⟩, .string ⟨#[]⟩, .string ⟨#[]⟩, .string ⟨#[]⟩, .string ⟨#[]⟩] 38)) := belA
  have hb := Box.new w #[.string ⟨#[]⟩, .string ⟨#[]⟩, .string ⟨#[]⟩, .string ⟨#[]⟩, .string ⟨#[]⟩, .string ⟨#[]⟩] 38
  clear hx hy hz ht E1 E2 E3
  go_enter Tryz.func26, Tryz.ntmps26
  go_wp2_with fail
  refine (H1.out _ h0).mono ?_
  rintro e w1 ⟨rfl, hb1⟩
  have h1 := Bt h0 hb1
  go_wp2_with fail
  refine (H2.out _ h1).mono ?_
  rintro e w2 ⟨rfl, hb2⟩
  have h2 := Bt h1 hb2
  go_wp2_with fail
  refine (H3.out _ h2).mono ?_
  rintro e w3 ⟨rfl, hb3⟩
  have h3 := Bt h2 hb3
  have hr := ((hb.later hb1).later hb2).later hb3
  have cr := hr.cell
  have fr := hr.free
  have lr := hr.lt
  clear h0 h1 h2 hb1 hb2 hb3 hb H1 H2 H3
  go_wp2_with fail
  refine ret_c rfl rfl ((((((hr.set 0 _).set 1 _).set 2 _).set 3 _).set 4 _).set 5 _) Tryz.underlying38 rfl (by kernel_rfl) ?_
  exact ⟨rfl, (((((h3.setCell (Nat.le_refl _) _).setCell (Nat.le_refl _) _).setCell (Nat.le_refl _) _).setCell (Nat.le_refl _) _).setCell (Nat.le_refl _) _).setCell (Nat.le_refl _) _⟩
end Go.Proofs.verdigrislaw25
namespace Go.Proofs.verdigrislaw25
open Go Go.RowKit Go.SW Go.Num Go.Mem Go.Proofs Go.Dec Go.Fra

/-- The first row of a matrix with three rows. -/
theorem MatV.row0 {w : World} {v : Value} {m : List (List Fr)} {x y z : Fr} (h : MatV w v m) (h3 : m.length = 3) (h0 : m.headD [] = [x, y, z]) :
    ∃ b off cap b2 off2 cap2, v = .slice (some ⟨b, off, none⟩) 3 cap ∧ b < w.heap.size ∧ w.cell? ⟨b, off, none⟩ = some (.slice (some ⟨b2, off2, none⟩) 3 cap2) ∧ b2 < w.heap.size ∧
      w.cell? ⟨b2, off2, none⟩ = some (.string x.n) ∧ w.cell? ⟨b2, off2 + 1, none⟩ = some (.string x.d) ∧ w.cell? ⟨b2, off2 + 2, none⟩ = some (.string y.n) ∧ w.cell? ⟨b2, off2 + 3, none⟩ = some (.string y.d) ∧
      w.cell? ⟨b2, off2 + 4, none⟩ = some (.string z.n) ∧ w.cell? ⟨b2, off2 + 5, none⟩ = some (.string z.d) := by
  obtain ⟨rs, hR, hl, hF⟩ := h
  rw [h3] at hl
  match rs, hl with
  | [r0, r1, r2], _ =>
    have hf := hF 0 (by simp) (by omega)
    have e0 : m[0] = [x, y, z] := by
      match m, h3, h0 with
      | [a, b, c], _, h0 => exact h0
    rw [e0] at hf
    obtain ⟨a2, cap2, e2, -⟩ := id hf
    simp only [List.getElem_cons_zero] at e2 hf
    subst e2
    obtain ⟨-, b2, off2, rfl, lb2, hc⟩ := adapt.Frs.cells hf (by simp)
    have k0 := hc 0 (by simp)
    have k1 := hc 1 (by simp)
    have k2 := hc 2 (by simp)
    rcases hR.cases with ⟨-, h1⟩ | ⟨b, off, cap, arr, rfl, k3, -, k4, k6⟩
    · cases h1
    · refine ⟨b, off, cap, b2, off2, cap2, rfl, k4.lt, ?_, lb2, k0.1, k0.2, k1.1, k1.2, k2.1, k2.2⟩
      have := k6 0 (by simp)
      rw [k4.cell]
      simpa using this

set_option maxRecDepth 100000 in
set_option maxHeartbeats 2000000 in
theorem row_ok (va : Value) (m : List (List Fr)) (t : light.Tri) (w : World) (h : MatV w va m) (h3 : m.length = 3) (h0 : m.headD [] = t.list) :
    Calls Tryz.prog 31 #[va, t.v] w (fun e w' => e = .returned (.bool true) ∧ Below w.heap.size w w') := by
  obtain ⟨⟨a1, a2⟩, ⟨a3, a4⟩, ⟨a5, a6⟩⟩ := t
  obtain ⟨b, off, cap, b2, off2, cap2, rfl, lb, hc, lb2, k1, k2, k3, k4, k5, k6⟩ := MatV.row0 h h3 h0
  unfold light.Tri.v light.Tri.cells
  have hb0 : Below w.heap.size w (w.alloc (.cells #[.string a1, .string a2, .string a3, .string a4, .string a5, .string a6] 38)) := belA
  have hx := Box.new w #[.string a1, .string a2, .string a3, .string a4, .string a5, .string a6] 38
  obtain ⟨w0, Ew0⟩ : ∃ y, w.alloc (.cells #[.string a1, .string a2, .string a3, .string a4, .string a5, .string a6] 38) = y := ⟨_, rfl⟩
  rw [Ew0] at hb0 hx
  replace hc := (hb0.cell (p := ⟨b, off, none⟩) lb).trans hc
  replace k1 := (hb0.cell (p := ⟨b2, off2, none⟩) lb2).trans k1
  replace k2 := (hb0.cell (p := ⟨b2, off2 + 1, none⟩) lb2).trans k2
  replace k3 := (hb0.cell (p := ⟨b2, off2 + 2, none⟩) lb2).trans k3
  replace k4 := (hb0.cell (p := ⟨b2, off2 + 3, none⟩) lb2).trans k4
  replace k5 := (hb0.cell (p := ⟨b2, off2 + 4, none⟩) lb2).trans k5
  replace k6 := (hb0.cell (p := ⟨b2, off2 + 5, none⟩) lb2).trans k6
  have cx := hx.cell
  have lx := hx.lt
  replace lb : b < w0.heap.size := Nat.lt_of_lt_of_le lb hb0.size
  replace lb2 : b2 < w0.heap.size := Nat.lt_of_lt_of_le lb2 hb0.size
  clear h h3 h0
  go_enter Tryz.func31, Tryz.ntmps31
  go_wp2_with fail
  try rw [Ew0]
  refine wp_region_walk [(.pure, 0), (.pure, 1), (.pure, 2), (.pure, 3), (.pure, 4), (.pure, 5), (.read, 6), (.pure, 7), (.pure, 8), (.pure, 9), (.pure, 10), (.pure, 11), (.pure, 12), (.read, 13), (.pure, 14), (.read, 15), (.pure, 16), (.read, 17), (.pure, 18), (.pure, 19), (.pure, 20), (.pure, 21), (.pure, 22), (.read, 23), (.pure, 24), (.read, 25), (.pure, 26), (.read, 27), (.pure, 28), (.pure, 29), (.pure, 30), (.pure, 31), (.pure, 32), (.read, 33), (.pure, 34), (.read, 35), (.pure, 36), (.read, 37), (.pure, 38), (.pure, 39), (.fin, 40)] (by kernel_rfl) (by kernel_rfl) (allocRuns_of (by kernel_rfl)) (fun _ _ _ _ hd h => And.intro (hd.trans (And.left h)) (And.right h)) ?_
  repeat (first | (refine walk_pure0 rfl rfl (fun J hJ => ?_); go_simp; refine hJ _ ?_; clear hJ J) | (refine walk_load rfl rfl rfl rfl (fun J hJ => ?_); go_simp; refine hJ _ ?_; clear hJ J; try go_simp) | (refine walk_pureG rfl rfl (fun J hJ => ?_); go_simp; refine hJ _ ?_; clear hJ J) | (refine walk_loadG rfl rfl rfl rfl (fun J hJ => ?_); go_simp; refine hJ _ ?_; clear hJ J; try go_simp))
  refine walk_fin [_] rfl (fun w5 hb5 => ?_)
  have h5 : Below w.heap.size w w5 := Bt hb0 belA
  go_wp2_with fail
  go_ret
  exact ⟨rfl, h5⟩
end Go.Proofs.verdigrislaw25
namespace Go.Proofs.verdigrislaw25
open Go Go.RowKit Go.SW Go.Num Go.Mem Go.Proofs Go.Dec Go.Fra

/-- A call that returns v in every later world. -/
def Ret (w : World) (f : FuncId) (args : Array Value) (v : Value) : Prop := ∀ W, Below w.heap.size w W → Calls Tryz.prog f args W (fun e W' => e = .returned v ∧ Below W.heap.size W W')
/-- A call that returns a matrix in every later world. -/
def RetM (w : World) (f : FuncId) (args : Array Value) (er : Int) (m : List (List Fr)) : Prop := ∀ W, Below w.heap.size w W → Calls Tryz.prog f args W (MatPost W er m)
theorem ret_of (n d : Int) (h : sm n d = true) (w : World) (ht : Bld.Pow w) : Ret w 22 #[.int .i64 n, .int .i64 d] (Fr.of (q2 n d)).v := fun W hW => of_ok n d h W (ht.later hW)
theorem ret_tri (x y z d : Int) (h : (sm x d && sm y d && sm z d) = true) (w : World) (ht : Bld.Pow w) : Ret w 26 #[.int .i64 x, .int .i64 y, .int .i64 z, .int .i64 d] (tq x y z d).v := fun W hW => by
  simp only [Bool.and_eq_true] at h
  exact tri_ok x y z d h.1.1 h.1.2 h.2 W (ht.later hW)
theorem ret_gains (k : Int) (a b : light.Tri) (d : Fr) (er : Int) (g : light.Tri) (he : adapt.gainsE k a b d = er) (hg : (if er = 0 then adapt.tri3 (adapt.gainsQ k a b d) else adapt.noTri) = g) (w : World) (ht : Bld.Pow w) (hc : adapt.Cones w) :
    Ret w 27 #[.int .i64 k, a.v, b.v, d.v] (.tuple #[g.v, .int .i64 er]) := fun W hW => (adapt.Gains_ok k a b d W (ht.later hW) (hc.later hW)).mono (by
  subst he
  subst hg
  exact fun _ _ h => ⟨h.2, h.1⟩)
theorem ret_matrix (k : Int) (a b : light.Tri) (d : Fr) (er : Int) (he : adapt.matE k a b d = er) (w : World) (ht : Bld.Pow w) (hc : adapt.Cones w) :
    RetM w 13 #[.int .i64 k, a.v, b.v, d.v] er (adapt.matR k a b d).fr := fun W hW => he ▸ adapt.Matrix_ok k a b d W (ht.later hW) (hc.later hW)
theorem ret_cone (k : Int) (er : Int) (he : adapt.coneE k = er) (w : World) (ht : Bld.Pow w) (hc : adapt.Cones w) :
    RetM w 30 #[.int .i64 k] er (adapt.coneR (k - 1).toNat).fr := fun W hW => he ▸ adapt.Cone_ok k W (ht.later hW) (hc.later hW)
theorem ret_adapt (va : Value) (m : List (List Fr)) (t : light.Tri) (er : Int) (g : light.Tri) (he : adapt.adaptE m t = er) (hg : (if er = 0 then adapt.adaptT m t else adapt.noTri) = g) (w : World) (hm : MatV w va m) (ht : Bld.Pow w) :
    Ret w 20 #[va, t.v] (.tuple #[g.v, .int .i64 er]) := fun W hW => (adapt.Adapt_ok va m t W (hm.later hW) (ht.later hW)).mono (by
  subst he
  subst hg
  exact fun _ _ h => ⟨h.2, h.1⟩)
theorem ret_row (va : Value) (m : List (List Fr)) (t : light.Tri) (w : World) (hm : MatV w va m) (h3 : m.length = 3) (h0 : m.headD [] = t.list) : Ret w 31 #[va, t.v] (.bool true) := fun W hW => row_ok va m t W (hm.later hW) h3 h0
theorem Ret.later {w w' : World} {f : FuncId} {args : Array Value} {v : Value} (h : Ret w f args v) (hb : Below w.heap.size w w') : Ret w' f args v := fun W hW => h W (Bt hb hW)
theorem RetM.later {w w' : World} {f : FuncId} {args : Array Value} {er : Int} {m : List (List Fr)} (h : RetM w f args er m) (hb : Below w.heap.size w w') : RetM w' f args er m := fun W hW => h W (Bt hb hW)

theorem tri3_tq {f : Nat → Rat} {x y z d : Int} (h : (decide (f 0 = q2 x d) && decide (f 1 = q2 y d) && decide (f 2 = q2 z d)) = true) : adapt.tri3 f = tq x y z d := by
  simp only [Bool.and_eq_true, decide_eq_true_eq] at h
  unfold adapt.tri3 tq
  rw [h.1.1, h.1.2, h.2]
theorem head_tq {m : matrix.RM} {x y z d : Int} (h : m.headD [] = [q2 x d, q2 y d, q2 z d]) : m.fr.headD [] = (tq x y z d).list := by
  cases m with
  | nil => cases h
  | cons r t =>
    have h' : r = [q2 x d, q2 y d, q2 z d] := h
    show r.map Fr.of = _
    rw [h']
    rfl
/-- A matrix of three rows with this first row. -/
def Fst (m : List (List Fr)) (t : light.Tri) : Prop := m.length = 3 ∧ m.headD [] = t.list

set_option maxRecDepth 100000 in
set_option maxHeartbeats 4000000 in
theorem works_ok (w : World) (ht : Bld.Pow w) (hc : adapt.Cones w) : Calls Tryz.prog 9 #[] w (fun e w' => e = .returned (.bool true) ∧ Below w.heap.size w w') := by
  have T1 := Lib.hid (ret_tri 1 1 1 1 (by decide +kernel) w ht)
  have T2 := Lib.hid (ret_tri 4 2 1 2 (by decide +kernel) w ht)
  have T3 := Lib.hid (ret_tri 1 0 1 1 (by decide +kernel) w ht)
  have T4 := Lib.hid (ret_tri 1 0 0 1 (by decide +kernel) w ht)
  have T5 := Lib.hid (ret_tri 8951 2664 (-1614) 10000 (by decide +kernel) w ht)
  have T6 := Lib.hid (ret_tri 6 4 3 4 (by decide +kernel) w ht)
  have T7 := Lib.hid (ret_tri 2 0 0 1 (by decide +kernel) w ht)
  have O1 := Lib.hid (ret_of 1 1 (by decide +kernel) w ht)
  have O2 := Lib.hid (ret_of 1 2 (by decide +kernel) w ht)
  have O3 := Lib.hid (ret_of 2 1 (by decide +kernel) w ht)
  have C1 := Lib.hid (ret_cone 1 0 rfl w ht hc)
  have C3 := Lib.hid (ret_cone 3 0 rfl w ht hc)
  have C5 := Lib.hid (ret_cone 5 2 rfl w ht hc)
  have G1 := Lib.hid (ret_gains 1 (tq 1 1 1 1) (tq 4 2 1 2) (Fr.of (q2 1 1)) 0 (tq 4 2 1 2) (by decide +kernel) (by rw [if_pos rfl]; exact tri3_tq (by decide +kernel)) w ht hc)
  have G2 := Lib.hid (ret_gains 1 (tq 1 1 1 1) (tq 4 2 1 2) (Fr.of (q2 1 2)) 0 (tq 6 4 3 4) (by decide +kernel) (by rw [if_pos rfl]; exact tri3_tq (by decide +kernel)) w ht hc)
  have G3 := Lib.hid (ret_gains 1 (tq 1 1 1 1) (tq 4 2 1 2) (Fr.of (q2 2 1)) 2 adapt.noTri (by decide +kernel) (if_neg (by decide)) w ht hc)
  have G4 := Lib.hid (ret_gains 1 (tq 1 0 1 1) (tq 4 2 1 2) (Fr.of (q2 1 1)) 2 adapt.noTri (by decide +kernel) (if_neg (by decide)) w ht hc)
  have M1 := Lib.hid (ret_matrix 1 (tq 1 1 1 1) (tq 4 2 1 2) (Fr.of (q2 1 1)) 0 (by decide +kernel) w ht hc)
  have F1 : Hid (Fst (adapt.coneR ((1 : Int) - 1).toNat).fr (tq 1 0 0 1)) := Lib.hid ⟨rfl, head_tq (by decide +kernel)⟩
  have F3 : Hid (Fst (adapt.coneR ((3 : Int) - 1).toNat).fr (tq 8951 2664 (-1614) 10000)) := Lib.hid ⟨rfl, head_tq (by decide +kernel)⟩
  have FM : Hid (Fst (adapt.matR 1 (tq 1 1 1 1) (tq 4 2 1 2) (Fr.of (q2 1 1))).fr (tq 2 0 0 1)) := Lib.hid ⟨rfl, head_tq (by decide +kernel)⟩
  have A1 : Hid (∀ va W, Below w.heap.size w W → MatV W va (adapt.matR 1 (tq 1 1 1 1) (tq 4 2 1 2) (Fr.of (q2 1 1))).fr → Ret W 20 #[va, (tq 1 1 1 1).v] (.tuple #[(tq 4 2 1 2).v, .int .i64 0])) := Lib.hid fun va W hW hm =>
    ret_adapt va _ (tq 1 1 1 1) 0 (tq 4 2 1 2) (by decide +kernel) (by rw [if_pos rfl]; exact tri3_tq (by decide +kernel)) W hm (ht.later hW)
  obtain ⟨m1, E⟩ : ∃ y, (adapt.coneR ((1 : Int) - 1).toNat).fr = y := ⟨_, rfl⟩
  rw [E] at C1 F1
  clear E
  obtain ⟨m3, E⟩ : ∃ y, (adapt.coneR ((3 : Int) - 1).toNat).fr = y := ⟨_, rfl⟩
  rw [E] at C3 F3
  clear E
  obtain ⟨m5, E⟩ : ∃ y, (adapt.coneR ((5 : Int) - 1).toNat).fr = y := ⟨_, rfl⟩
  rw [E] at C5
  clear E
  obtain ⟨mm, E⟩ : ∃ y, (adapt.matR 1 (tq 1 1 1 1) (tq 4 2 1 2) (Fr.of (q2 1 1))).fr = y := ⟨_, rfl⟩
  rw [E] at M1 FM A1
  clear E
  obtain ⟨⟨⟨k1, k2⟩, ⟨k3, k4⟩, ⟨k5, k6⟩⟩, E⟩ : ∃ y : light.Tri, adapt.noTri = y := ⟨_, rfl⟩
  simp only [E] at G3 G4
  clear E
  obtain ⟨⟨⟨a1, a2⟩, ⟨a3, a4⟩, ⟨a5, a6⟩⟩, E⟩ : ∃ y : light.Tri, tq 1 1 1 1 = y := ⟨_, rfl⟩
  simp only [E] at T1 G1 G2 G3 M1 A1
  clear E
  obtain ⟨⟨⟨b1, b2⟩, ⟨b3, b4⟩, ⟨b5, b6⟩⟩, E⟩ : ∃ y : light.Tri, tq 4 2 1 2 = y := ⟨_, rfl⟩
  simp only [E] at T2 G1 G2 G3 G4 M1 A1
  clear E
  obtain ⟨⟨⟨c1, c2⟩, ⟨c3, c4⟩, ⟨c5, c6⟩⟩, E⟩ : ∃ y : light.Tri, tq 1 0 1 1 = y := ⟨_, rfl⟩
  simp only [E] at T3 G4
  clear E
  obtain ⟨⟨⟨d1, d2⟩, ⟨d3, d4⟩, ⟨d5, d6⟩⟩, E⟩ : ∃ y : light.Tri, tq 1 0 0 1 = y := ⟨_, rfl⟩
  simp only [E] at T4 F1
  clear E
  obtain ⟨⟨⟨e1, e2⟩, ⟨e3, e4⟩, ⟨e5, e6⟩⟩, E⟩ : ∃ y : light.Tri, tq 8951 2664 (-1614) 10000 = y := ⟨_, rfl⟩
  simp only [E] at T5 F3
  clear E
  obtain ⟨⟨⟨f1, f2⟩, ⟨f3, f4⟩, ⟨f5, f6⟩⟩, E⟩ : ∃ y : light.Tri, tq 6 4 3 4 = y := ⟨_, rfl⟩
  simp only [E] at T6 G2
  clear E
  obtain ⟨⟨⟨g1, g2⟩, ⟨g3, g4⟩, ⟨g5, g6⟩⟩, E⟩ : ∃ y : light.Tri, tq 2 0 0 1 = y := ⟨_, rfl⟩
  simp only [E] at T7 FM
  clear E
  obtain ⟨⟨h1, h2⟩, E⟩ : ∃ y : Fr, Fr.of (q2 1 1) = y := ⟨_, rfl⟩
  rw [E] at O1 G1 G4 M1
  clear E
  obtain ⟨⟨i1, i2⟩, E⟩ : ∃ y : Fr, Fr.of (q2 1 2) = y := ⟨_, rfl⟩
  rw [E] at O2 G2
  clear E
  obtain ⟨⟨j1, j2⟩, E⟩ : ∃ y : Fr, Fr.of (q2 2 1) = y := ⟨_, rfl⟩
  rw [E] at O3 G3
  clear E
  unfold light.Tri.v light.Tri.cells Fr.v at *
  dsimp only at T1 T2 T3 T4 T5 T6 T7 G1 G2 G3 G4 M1 A1 O1 O2 O3
  clear ht hc
  go_enter Tryz.func9, Tryz.ntmps9
  have HEQ := @run_eqTri_same
  go_wp2_with fail
  refine (T1.out _ (Below.refl _ _)).mono ?_
  rintro e wc1 ⟨rfl, hb1⟩
  have hk2 := Bt (Below.refl _ _) hb1
  clear hb1
  go_wp2_with fail
  refine (T2.out _ hk2).mono ?_
  rintro e wc3 ⟨rfl, hb3⟩
  have hk4 := Bt hk2 hb3
  clear hk2
  clear hb3
  go_wp2_with fail
  have hz : Below wc3.heap.size wc3 ((wc3.alloc (.cells #[.string a1, .string a2, .string a3, .string a4, .string a5, .string a6] 38)).alloc (.cells #[.string b1, .string b2, .string b3, .string b4, .string b5, .string b6] 38)) := belA
  obtain ⟨wq5, EW⟩ : ∃ y, ((wc3.alloc (.cells #[.string a1, .string a2, .string a3, .string a4, .string a5, .string a6] 38)).alloc (.cells #[.string b1, .string b2, .string b3, .string b4, .string b5, .string b6] 38)) = y := ⟨_, rfl⟩
  have X1 : Hid (Box wq5 (wc3.heap.size) #[.string a1, .string a2, .string a3, .string a4, .string a5, .string a6] 38) := Lib.hid (by rw [← EW]; exact Box.alloc (Box.new _ _ _) _)
  have X2 : Hid (Box wq5 (wc3.heap.size + 1) #[.string b1, .string b2, .string b3, .string b4, .string b5, .string b6] 38) := Lib.hid (by rw [← EW]; exact Box.at1 _ _ _ _)
  rw [EW] at hz ⊢
  have hk6 := Bt hk4 hz
  clear hk4
  clear EW hz
  generalize wc3.heap.size = pq5 at *
  refine (C1.out _ hk6).mono ?_
  rintro e wc7 ⟨hb7, v, rfl, hy, -⟩
  have hv8 := hy rfl
  obtain ⟨rs, hR, -⟩ := id hv8
  obtain ⟨vm8, qm8, rfl, -⟩ := hR
  generalize rs.length = nm8 at hv8
  clear hy
  replace X1 := Lib.hid (X1.out.later hb7)
  replace X2 := Lib.hid (X2.out.later hb7)
  have hk9 := Bt hk6 hb7
  clear hk6
  have HVC1 := Lib.hid hv8
  clear hv8
  clear hb7
  go_wp2_with fail
  refine (C3.out _ hk9).mono ?_
  rintro e wc10 ⟨hb10, v, rfl, hy, -⟩
  have hv11 := hy rfl
  obtain ⟨rs, hR, -⟩ := id hv11
  obtain ⟨vm11, qm11, rfl, -⟩ := hR
  generalize rs.length = nm11 at hv11
  clear hy
  replace X1 := Lib.hid (X1.out.later hb10)
  replace X2 := Lib.hid (X2.out.later hb10)
  replace HVC1 := Lib.hid (HVC1.out.later hb10)
  have hk12 := Bt hk9 hb10
  clear hk9
  have HVC3 := Lib.hid hv11
  clear hv11
  clear hb10
  go_wp2_with fail
  refine (C5.out _ hk12).mono ?_
  rintro e wc13 ⟨hb13, v, rfl, -, hy⟩
  have hz := hy (by decide)
  subst hz
  clear hy
  replace X1 := Lib.hid (X1.out.later hb13)
  replace X2 := Lib.hid (X2.out.later hb13)
  replace HVC1 := Lib.hid (HVC1.out.later hb13)
  replace HVC3 := Lib.hid (HVC3.out.later hb13)
  have hk15 := Bt hk12 hb13
  clear hk12
  clear hb13
  go_wp2_with fail
  have cX1 := X1.out.cell; have lX1 := X1.out.lt
  have cX2 := X2.out.cell; have lX2 := X2.out.lt
  refine wp_region_walk [(.read, 0), (.read, 1), (.ext, 2), (.ext, 3), (.pure, 4), (.pure, 5), (.pure, 6), (.alloc #[.string ⟨#[]⟩, .string ⟨#[]⟩, .string ⟨#[]⟩, .string ⟨#[]⟩, .string ⟨#[]⟩, .string ⟨#[]⟩] 37, 7), (.fin, 8), (.fin, 9)] (by kernel_rfl) (by kernel_rfl) (allocRuns_of (by kernel_rfl)) (fun _ _ _ _ hd h => And.intro (hd.trans (And.left h)) (And.right h)) ?_
  repeat (first | (refine walk_pure0 rfl rfl (fun J hJ => ?_); go_simp; refine hJ _ ?_; clear hJ J) | (refine walk_load rfl rfl rfl rfl (fun J hJ => ?_); go_simp; refine hJ _ ?_; clear hJ J; try go_simp))
  refine walk_ext rfl rfl (fun we16 hb16 J hJ => ?_); go_simp
  have hh16 : Below wc13.heap.size wc13 we16 := belA
  clear hb16
  refine (O1.out _ (Bt hk15 hh16)).mono ?_
  rintro e wc17 ⟨rfl, hb17⟩
  refine hJ _ _ hb17 ?_
  clear hJ J
  have hh17 := Bt hh16 hb17
  clear hh16 hb17
  repeat (first | (refine walk_pure0 rfl rfl (fun J hJ => ?_); go_simp; refine hJ _ ?_; clear hJ J) | (refine walk_load rfl rfl rfl rfl (fun J hJ => ?_); go_simp; refine hJ _ ?_; clear hJ J; try go_simp))
  refine walk_ext rfl rfl (fun we18 hb18 J hJ => ?_); go_simp
  have hh18 : Below wc13.heap.size wc13 we18 := Bt hh17 belA
  clear hh17
  clear hb18
  refine (G1.out _ (Bt hk15 hh18)).mono ?_
  rintro e wc19 ⟨rfl, hb19⟩
  refine hJ _ _ hb19 ?_
  clear hJ J
  have hh19 := Bt hh18 hb19
  clear hh18 hb19
  repeat (first | (refine walk_pure0 rfl rfl (fun J hJ => ?_); go_simp; refine hJ _ ?_; clear hJ J) | (refine walk_load rfl rfl rfl rfl (fun J hJ => ?_); go_simp; refine hJ _ ?_; clear hJ J; try go_simp))
  refine walk_alloc rfl (fun bk20 wa20 hwa20 hNbk20 hltbk20 hAbk20 hxbk20 => ?_); go_simp; replace hxbk20 : Box _ _ _ _ := hxbk20; have hWbk20 : w.heap.size ≤ bk20 := (by first | omega | exact Nat.le_trans (Below.size (B := w.heap.size) belA) hNbk20)
  refine walk_fin [_, _] rfl (fun wf21 hf21 => ?_)
  have hh21 : Below wc13.heap.size wc13 wf21 := Bt hh19 belA
  have hq := hxbk20.later hf21
  have cq := hq.cell
  have fq := hq.free
  clear hxbk20 hf21 hh19
  clear cX1 lX1 cX2 lX2
  go_wp2_with fail
  obtain ⟨wq22, EW⟩ : ∃ y, ((((((wf21.setCell ⟨bk20, 0, none⟩ (.string b1)).setCell ⟨bk20, 1, none⟩ (.string b2)).setCell ⟨bk20, 2, none⟩ (.string b3)).setCell ⟨bk20, 3, none⟩ (.string b4)).setCell ⟨bk20, 4, none⟩ (.string b5)).setCell ⟨bk20, 5, none⟩ (.string b6)) = y := ⟨_, rfl⟩
  have hz : Below wc13.heap.size wc13 wq22 := by rw [← EW]; exact ((((((hh21.setCell hNbk20 _).setCell hNbk20 _).setCell hNbk20 _).setCell hNbk20 _).setCell hNbk20 _).setCell hNbk20 _)
  have X3 : Hid (Box wq22 bk20 #[.string b1, .string b2, .string b3, .string b4, .string b5, .string b6] 37) := Lib.hid (by rw [← EW]; exact ((((((hq.set 0 _).set 1 _).set 2 _).set 3 _).set 4 _).set 5 _))
  rw [EW]
  clear EW hq cq fq hh21
  replace X1 := Lib.hid (X1.out.later hz)
  replace X2 := Lib.hid (X2.out.later hz)
  replace HVC1 := Lib.hid (HVC1.out.later hz)
  replace HVC3 := Lib.hid (HVC3.out.later hz)
  have hk23 := Bt hk15 hz
  clear hk15
  clear hz
  clear hwa20 hNbk20 hltbk20 hAbk20 hWbk20
  go_wp2_with fail
  have cX1 := X1.out.cell; have lX1 := X1.out.lt
  have cX2 := X2.out.cell; have lX2 := X2.out.lt
  refine wp_region_walk [(.read, 0), (.read, 1), (.ext, 2), (.ext, 3), (.pure, 4), (.pure, 5), (.pure, 6), (.alloc #[.string ⟨#[]⟩, .string ⟨#[]⟩, .string ⟨#[]⟩, .string ⟨#[]⟩, .string ⟨#[]⟩, .string ⟨#[]⟩] 37, 7), (.fin, 8), (.fin, 9)] (by kernel_rfl) (by kernel_rfl) (allocRuns_of (by kernel_rfl)) (fun _ _ _ _ hd h => And.intro (hd.trans (And.left h)) (And.right h)) ?_
  repeat (first | (refine walk_pure0 rfl rfl (fun J hJ => ?_); go_simp; refine hJ _ ?_; clear hJ J) | (refine walk_load rfl rfl rfl rfl (fun J hJ => ?_); go_simp; refine hJ _ ?_; clear hJ J; try go_simp))
  refine walk_ext rfl rfl (fun we24 hb24 J hJ => ?_); go_simp
  have hh24 : Below wq22.heap.size wq22 we24 := belA
  clear hb24
  refine (O2.out _ (Bt hk23 hh24)).mono ?_
  rintro e wc25 ⟨rfl, hb25⟩
  refine hJ _ _ hb25 ?_
  clear hJ J
  have hh25 := Bt hh24 hb25
  clear hh24 hb25
  repeat (first | (refine walk_pure0 rfl rfl (fun J hJ => ?_); go_simp; refine hJ _ ?_; clear hJ J) | (refine walk_load rfl rfl rfl rfl (fun J hJ => ?_); go_simp; refine hJ _ ?_; clear hJ J; try go_simp))
  refine walk_ext rfl rfl (fun we26 hb26 J hJ => ?_); go_simp
  have hh26 : Below wq22.heap.size wq22 we26 := Bt hh25 belA
  clear hh25
  clear hb26
  refine (G2.out _ (Bt hk23 hh26)).mono ?_
  rintro e wc27 ⟨rfl, hb27⟩
  refine hJ _ _ hb27 ?_
  clear hJ J
  have hh27 := Bt hh26 hb27
  clear hh26 hb27
  repeat (first | (refine walk_pure0 rfl rfl (fun J hJ => ?_); go_simp; refine hJ _ ?_; clear hJ J) | (refine walk_load rfl rfl rfl rfl (fun J hJ => ?_); go_simp; refine hJ _ ?_; clear hJ J; try go_simp))
  refine walk_alloc rfl (fun bk28 wa28 hwa28 hNbk28 hltbk28 hAbk28 hxbk28 => ?_); go_simp; replace hxbk28 : Box _ _ _ _ := hxbk28; have hWbk28 : w.heap.size ≤ bk28 := (by first | omega | exact Nat.le_trans (Below.size (B := w.heap.size) belA) hNbk28)
  refine walk_fin [_, _] rfl (fun wf29 hf29 => ?_)
  have hh29 : Below wq22.heap.size wq22 wf29 := Bt hh27 belA
  have hq := hxbk28.later hf29
  have cq := hq.cell
  have fq := hq.free
  clear hxbk28 hf29 hh27
  clear cX1 lX1 cX2 lX2
  go_wp2_with fail
  obtain ⟨wq30, EW⟩ : ∃ y, ((((((wf29.setCell ⟨bk28, 0, none⟩ (.string f1)).setCell ⟨bk28, 1, none⟩ (.string f2)).setCell ⟨bk28, 2, none⟩ (.string f3)).setCell ⟨bk28, 3, none⟩ (.string f4)).setCell ⟨bk28, 4, none⟩ (.string f5)).setCell ⟨bk28, 5, none⟩ (.string f6)) = y := ⟨_, rfl⟩
  have hz : Below wq22.heap.size wq22 wq30 := by rw [← EW]; exact ((((((hh29.setCell hNbk28 _).setCell hNbk28 _).setCell hNbk28 _).setCell hNbk28 _).setCell hNbk28 _).setCell hNbk28 _)
  have X4 : Hid (Box wq30 bk28 #[.string f1, .string f2, .string f3, .string f4, .string f5, .string f6] 37) := Lib.hid (by rw [← EW]; exact ((((((hq.set 0 _).set 1 _).set 2 _).set 3 _).set 4 _).set 5 _))
  rw [EW]
  clear EW hq cq fq hh29
  replace X1 := Lib.hid (X1.out.later hz)
  replace X2 := Lib.hid (X2.out.later hz)
  replace HVC1 := Lib.hid (HVC1.out.later hz)
  replace HVC3 := Lib.hid (HVC3.out.later hz)
  replace X3 := Lib.hid (X3.out.later hz)
  have hk31 := Bt hk23 hz
  clear hk23
  clear hz
  clear hwa28 hNbk28 hltbk28 hAbk28 hWbk28
  go_wp2_with fail
  have cX1 := X1.out.cell; have lX1 := X1.out.lt
  have cX2 := X2.out.cell; have lX2 := X2.out.lt
  refine wp_region_walk [(.read, 0), (.read, 1), (.ext, 2), (.ext, 3), (.pure, 4), (.pure, 5), (.pure, 6), (.fin, 7), (.fin, 8)] (by kernel_rfl) (by kernel_rfl) (allocRuns_of (by kernel_rfl)) (fun _ _ _ _ hd h => And.intro (hd.trans (And.left h)) (And.right h)) ?_
  repeat (first | (refine walk_pure0 rfl rfl (fun J hJ => ?_); go_simp; refine hJ _ ?_; clear hJ J) | (refine walk_load rfl rfl rfl rfl (fun J hJ => ?_); go_simp; refine hJ _ ?_; clear hJ J; try go_simp))
  refine walk_ext rfl rfl (fun we32 hb32 J hJ => ?_); go_simp
  have hh32 : Below wq30.heap.size wq30 we32 := belA
  clear hb32
  refine (O1.out _ (Bt hk31 hh32)).mono ?_
  rintro e wc33 ⟨rfl, hb33⟩
  refine hJ _ _ hb33 ?_
  clear hJ J
  have hh33 := Bt hh32 hb33
  clear hh32 hb33
  repeat (first | (refine walk_pure0 rfl rfl (fun J hJ => ?_); go_simp; refine hJ _ ?_; clear hJ J) | (refine walk_load rfl rfl rfl rfl (fun J hJ => ?_); go_simp; refine hJ _ ?_; clear hJ J; try go_simp))
  refine walk_ext rfl rfl (fun we34 hb34 J hJ => ?_); go_simp
  have hh34 : Below wq30.heap.size wq30 we34 := Bt hh33 belA
  clear hh33
  clear hb34
  refine (M1.out _ (Bt hk31 hh34)).mono ?_
  rintro e wc35 ⟨hb35, v, rfl, hy, -⟩
  have hv36 := hy rfl
  obtain ⟨rs, hR, -⟩ := id hv36
  obtain ⟨vm36, qm36, rfl, -⟩ := hR
  generalize rs.length = nm36 at hv36 hJ
  clear hy
  refine hJ _ _ hb35 ?_
  clear hJ J
  have hh35 := Bt hh34 hb35
  have hl35 := hb35
  clear hh34 hb35
  clear hl35
  repeat (first | (refine walk_pure0 rfl rfl (fun J hJ => ?_); go_simp; refine hJ _ ?_; clear hJ J) | (refine walk_load rfl rfl rfl rfl (fun J hJ => ?_); go_simp; refine hJ _ ?_; clear hJ J; try go_simp))
  refine walk_fin [_, _] rfl (fun wf37 hf37 => ?_)
  have hh37 : Below wq30.heap.size wq30 wf37 := Bt hh35 belA
  have HVM1 := Lib.hid (hv36.later (w' := wf37) belA)
  clear hv36
  clear hf37 hh35
  clear cX1 lX1 cX2 lX2
  replace X1 := Lib.hid (X1.out.later hh37)
  replace X2 := Lib.hid (X2.out.later hh37)
  replace HVC1 := Lib.hid (HVC1.out.later hh37)
  replace HVC3 := Lib.hid (HVC3.out.later hh37)
  replace X3 := Lib.hid (X3.out.later hh37)
  replace X4 := Lib.hid (X4.out.later hh37)
  have hk38 := Bt hk31 hh37
  clear hk31
  clear hh37
  have cX1 := X1.out.cell; have lX1 := X1.out.lt
  go_wp2_with fail
  clear cX1 lX1
  refine (A1.out _ _ hk38 HVM1.out _ (Below.refl _ _)).mono ?_
  rintro e wc39 ⟨rfl, hb39⟩
  replace X1 := Lib.hid (X1.out.later hb39)
  replace X2 := Lib.hid (X2.out.later hb39)
  replace HVC1 := Lib.hid (HVC1.out.later hb39)
  replace HVC3 := Lib.hid (HVC3.out.later hb39)
  replace X3 := Lib.hid (X3.out.later hb39)
  replace X4 := Lib.hid (X4.out.later hb39)
  replace HVM1 := Lib.hid (HVM1.out.later hb39)
  have hk40 := Bt hk38 hb39
  clear hk38
  clear hb39
  go_wp2_with fail
  have hz : Below wc39.heap.size wc39 (wc39.alloc (.cells #[.string b1, .string b2, .string b3, .string b4, .string b5, .string b6] 38)) := belA
  obtain ⟨wq41, EW⟩ : ∃ y, (wc39.alloc (.cells #[.string b1, .string b2, .string b3, .string b4, .string b5, .string b6] 38)) = y := ⟨_, rfl⟩
  have X5 : Hid (Box wq41 (wc39.heap.size) #[.string b1, .string b2, .string b3, .string b4, .string b5, .string b6] 38) := Lib.hid (by rw [← EW]; exact Box.new _ _ _)
  rw [EW] at hz ⊢
  replace X1 := Lib.hid (X1.out.later hz)
  replace X2 := Lib.hid (X2.out.later hz)
  replace HVC1 := Lib.hid (HVC1.out.later hz)
  replace HVC3 := Lib.hid (HVC3.out.later hz)
  replace X3 := Lib.hid (X3.out.later hz)
  replace X4 := Lib.hid (X4.out.later hz)
  replace HVM1 := Lib.hid (HVM1.out.later hz)
  have hk42 := Bt hk40 hz
  clear hk40
  clear EW hz
  generalize wc39.heap.size = pq41 at *
  have cX1 := X1.out.cell; have lX1 := X1.out.lt
  have cX2 := X2.out.cell; have lX2 := X2.out.lt
  refine wp_region_walk [(.read, 0), (.read, 1), (.ext, 2), (.ext, 3), (.pure, 4), (.pure, 5), (.pure, 6), (.alloc #[.string ⟨#[]⟩, .string ⟨#[]⟩, .string ⟨#[]⟩, .string ⟨#[]⟩, .string ⟨#[]⟩, .string ⟨#[]⟩] 37, 7), (.fin, 8), (.fin, 9)] (by kernel_rfl) (by kernel_rfl) (allocRuns_of (by kernel_rfl)) (fun _ _ _ _ hd h => And.intro (hd.trans (And.left h)) (And.right h)) ?_
  repeat (first | (refine walk_pure0 rfl rfl (fun J hJ => ?_); go_simp; refine hJ _ ?_; clear hJ J) | (refine walk_load rfl rfl rfl rfl (fun J hJ => ?_); go_simp; refine hJ _ ?_; clear hJ J; try go_simp))
  refine walk_ext rfl rfl (fun we43 hb43 J hJ => ?_); go_simp
  have hh43 : Below wq41.heap.size wq41 we43 := belA
  clear hb43
  refine (O3.out _ (Bt hk42 hh43)).mono ?_
  rintro e wc44 ⟨rfl, hb44⟩
  refine hJ _ _ hb44 ?_
  clear hJ J
  have hh44 := Bt hh43 hb44
  clear hh43 hb44
  repeat (first | (refine walk_pure0 rfl rfl (fun J hJ => ?_); go_simp; refine hJ _ ?_; clear hJ J) | (refine walk_load rfl rfl rfl rfl (fun J hJ => ?_); go_simp; refine hJ _ ?_; clear hJ J; try go_simp))
  refine walk_ext rfl rfl (fun we45 hb45 J hJ => ?_); go_simp
  have hh45 : Below wq41.heap.size wq41 we45 := Bt hh44 belA
  clear hh44
  clear hb45
  refine (G3.out _ (Bt hk42 hh45)).mono ?_
  rintro e wc46 ⟨rfl, hb46⟩
  refine hJ _ _ hb46 ?_
  clear hJ J
  have hh46 := Bt hh45 hb46
  clear hh45 hb46
  repeat (first | (refine walk_pure0 rfl rfl (fun J hJ => ?_); go_simp; refine hJ _ ?_; clear hJ J) | (refine walk_load rfl rfl rfl rfl (fun J hJ => ?_); go_simp; refine hJ _ ?_; clear hJ J; try go_simp))
  refine walk_alloc rfl (fun bk47 wa47 hwa47 hNbk47 hltbk47 hAbk47 hxbk47 => ?_); go_simp; replace hxbk47 : Box _ _ _ _ := hxbk47; have hWbk47 : w.heap.size ≤ bk47 := (by first | omega | exact Nat.le_trans (Below.size (B := w.heap.size) belA) hNbk47)
  refine walk_fin [_, _] rfl (fun wf48 hf48 => ?_)
  have hh48 : Below wq41.heap.size wq41 wf48 := Bt hh46 belA
  have hq := hxbk47.later hf48
  have cq := hq.cell
  have fq := hq.free
  clear hxbk47 hf48 hh46
  clear cX1 lX1 cX2 lX2
  go_wp2_with fail
  obtain ⟨wq49, EW⟩ : ∃ y, ((((((wf48.setCell ⟨bk47, 0, none⟩ (.string k1)).setCell ⟨bk47, 1, none⟩ (.string k2)).setCell ⟨bk47, 2, none⟩ (.string k3)).setCell ⟨bk47, 3, none⟩ (.string k4)).setCell ⟨bk47, 4, none⟩ (.string k5)).setCell ⟨bk47, 5, none⟩ (.string k6)) = y := ⟨_, rfl⟩
  have hz : Below wq41.heap.size wq41 wq49 := by rw [← EW]; exact ((((((hh48.setCell hNbk47 _).setCell hNbk47 _).setCell hNbk47 _).setCell hNbk47 _).setCell hNbk47 _).setCell hNbk47 _)
  rw [EW]
  clear EW hq cq fq hh48
  replace X1 := Lib.hid (X1.out.later hz)
  replace X2 := Lib.hid (X2.out.later hz)
  replace HVC1 := Lib.hid (HVC1.out.later hz)
  replace HVC3 := Lib.hid (HVC3.out.later hz)
  replace X3 := Lib.hid (X3.out.later hz)
  replace X4 := Lib.hid (X4.out.later hz)
  replace HVM1 := Lib.hid (HVM1.out.later hz)
  replace X5 := Lib.hid (X5.out.later hz)
  have hk50 := Bt hk42 hz
  clear hk42
  clear hz
  clear hwa47 hNbk47 hltbk47 hAbk47 hWbk47
  go_wp2_with fail
  have cX2 := X2.out.cell; have lX2 := X2.out.lt
  refine wp_region_walk [(.read, 1), (.ext, 0), (.ext, 2), (.ext, 3), (.pure, 4), (.pure, 5), (.pure, 6), (.alloc #[.string ⟨#[]⟩, .string ⟨#[]⟩, .string ⟨#[]⟩, .string ⟨#[]⟩, .string ⟨#[]⟩, .string ⟨#[]⟩] 37, 7), (.fin, 8), (.fin, 9)] (by kernel_rfl) (by kernel_rfl) (allocRuns_of (by kernel_rfl)) (fun _ _ _ _ hd h => And.intro (hd.trans (And.left h)) (And.right h)) ?_
  repeat (first | (refine walk_pure0 rfl rfl (fun J hJ => ?_); go_simp; refine hJ _ ?_; clear hJ J) | (refine walk_load rfl rfl rfl rfl (fun J hJ => ?_); go_simp; refine hJ _ ?_; clear hJ J; try go_simp))
  refine walk_ext rfl rfl (fun we51 hb51 J hJ => ?_); go_simp
  have hh51 : Below wq49.heap.size wq49 we51 := belA
  clear hb51
  refine (T3.out _ (Bt hk50 hh51)).mono ?_
  rintro e wc52 ⟨rfl, hb52⟩
  refine hJ _ _ hb52 ?_
  clear hJ J
  have hh52 := Bt hh51 hb52
  clear hh51 hb52
  repeat (first | (refine walk_pure0 rfl rfl (fun J hJ => ?_); go_simp; refine hJ _ ?_; clear hJ J) | (refine walk_load rfl rfl rfl rfl (fun J hJ => ?_); go_simp; refine hJ _ ?_; clear hJ J; try go_simp))
  refine walk_ext rfl rfl (fun we53 hb53 J hJ => ?_); go_simp
  have hh53 : Below wq49.heap.size wq49 we53 := Bt hh52 belA
  clear hh52
  clear hb53
  refine (O1.out _ (Bt hk50 hh53)).mono ?_
  rintro e wc54 ⟨rfl, hb54⟩
  refine hJ _ _ hb54 ?_
  clear hJ J
  have hh54 := Bt hh53 hb54
  clear hh53 hb54
  repeat (first | (refine walk_pure0 rfl rfl (fun J hJ => ?_); go_simp; refine hJ _ ?_; clear hJ J) | (refine walk_load rfl rfl rfl rfl (fun J hJ => ?_); go_simp; refine hJ _ ?_; clear hJ J; try go_simp))
  refine walk_ext rfl rfl (fun we55 hb55 J hJ => ?_); go_simp
  have hh55 : Below wq49.heap.size wq49 we55 := Bt hh54 belA
  clear hh54
  clear hb55
  refine (G4.out _ (Bt hk50 hh55)).mono ?_
  rintro e wc56 ⟨rfl, hb56⟩
  refine hJ _ _ hb56 ?_
  clear hJ J
  have hh56 := Bt hh55 hb56
  clear hh55 hb56
  repeat (first | (refine walk_pure0 rfl rfl (fun J hJ => ?_); go_simp; refine hJ _ ?_; clear hJ J) | (refine walk_load rfl rfl rfl rfl (fun J hJ => ?_); go_simp; refine hJ _ ?_; clear hJ J; try go_simp))
  refine walk_alloc rfl (fun bk57 wa57 hwa57 hNbk57 hltbk57 hAbk57 hxbk57 => ?_); go_simp; replace hxbk57 : Box _ _ _ _ := hxbk57; have hWbk57 : w.heap.size ≤ bk57 := (by first | omega | exact Nat.le_trans (Below.size (B := w.heap.size) belA) hNbk57)
  refine walk_fin [_, _] rfl (fun wf58 hf58 => ?_)
  have hh58 : Below wq49.heap.size wq49 wf58 := Bt hh56 belA
  have hq := hxbk57.later hf58
  have cq := hq.cell
  have fq := hq.free
  clear hxbk57 hf58 hh56
  clear cX2 lX2
  go_wp2_with fail
  obtain ⟨wq59, EW⟩ : ∃ y, ((((((wf58.setCell ⟨bk57, 0, none⟩ (.string k1)).setCell ⟨bk57, 1, none⟩ (.string k2)).setCell ⟨bk57, 2, none⟩ (.string k3)).setCell ⟨bk57, 3, none⟩ (.string k4)).setCell ⟨bk57, 4, none⟩ (.string k5)).setCell ⟨bk57, 5, none⟩ (.string k6)) = y := ⟨_, rfl⟩
  have hz : Below wq49.heap.size wq49 wq59 := by rw [← EW]; exact ((((((hh58.setCell hNbk57 _).setCell hNbk57 _).setCell hNbk57 _).setCell hNbk57 _).setCell hNbk57 _).setCell hNbk57 _)
  rw [EW]
  clear EW hq cq fq hh58
  clear X1
  replace X2 := Lib.hid (X2.out.later hz)
  replace HVC1 := Lib.hid (HVC1.out.later hz)
  replace HVC3 := Lib.hid (HVC3.out.later hz)
  replace X3 := Lib.hid (X3.out.later hz)
  replace X4 := Lib.hid (X4.out.later hz)
  replace HVM1 := Lib.hid (HVM1.out.later hz)
  replace X5 := Lib.hid (X5.out.later hz)
  have hk60 := Bt hk50 hz
  clear hk50
  clear hz
  clear hwa57 hNbk57 hltbk57 hAbk57 hWbk57
  go_wp2_with fail
  have cX3 := X3.out.cell; have lX3 := X3.out.lt
  have cX2 := X2.out.cell; have lX2 := X2.out.lt
  have cX4 := X4.out.cell; have lX4 := X4.out.lt
  have cX5 := X5.out.cell; have lX5 := X5.out.lt
  refine wp_region_walk [(.pure, 0), (.pure, 1), (.pure, 2), (.pure, 3), (.ext, 4), (.ext, 5), (.pure, 6), (.pure, 7), (.pure, 8), (.pure, 9), (.pure, 10), (.pure, 11), (.pure, 12), (.ext, 13), (.ext, 14), (.pure, 15), (.pure, 16), (.pure, 17), (.pure, 18), (.pure, 19), (.pure, 20), (.pure, 21), (.pure, 22), (.pure, 23), (.pure, 24), (.read, 25), (.read, 26), (.pure, 27), (.pure, 28), (.pure, 29), (.pure, 30), (.pure, 31), (.pure, 32), (.pure, 33), (.read, 34), (.ext, 35), (.pure, 36), (.pure, 37), (.pure, 38), (.pure, 39), (.pure, 40), (.pure, 41), (.pure, 42), (.pure, 43), (.ext, 44), (.ext, 45), (.pure, 46), (.pure, 47), (.pure, 48), (.pure, 49), (.pure, 50), (.pure, 51), (.read, 52), (.read, 53), (.pure, 54), (.pure, 55), (.pure, 56), (.pure, 57), (.pure, 58), (.pure, 59), (.pure, 60), (.pure, 61), (.pure, 62), (.pure, 63), (.fin, 64)] (by kernel_rfl) (by kernel_rfl) (allocRuns_of (by kernel_rfl)) (fun _ _ _ _ hd h => And.intro (hd.trans (And.left h)) (And.right h)) ?_
  repeat (first | (refine walk_pure0 rfl rfl (fun J hJ => ?_); go_simp; refine hJ _ ?_; clear hJ J) | (refine walk_load rfl rfl rfl rfl (fun J hJ => ?_); go_simp; refine hJ _ ?_; clear hJ J; try go_simp) | (refine walk_pureG rfl rfl (fun J hJ => ?_); go_simp; refine hJ _ ?_; clear hJ J) | (refine walk_loadG rfl rfl rfl rfl (fun J hJ => ?_); go_simp; refine hJ _ ?_; clear hJ J; try go_simp))
  refine walk_extG rfl rfl (fun we61 hb61 J hJ => ?_); go_simp
  have hh61 : Below wq59.heap.size wq59 we61 := belA
  clear hb61
  refine (T4.out _ (Bt hk60 hh61)).mono ?_
  rintro e wc62 ⟨rfl, hb62⟩
  refine hJ _ _ hb62 ?_
  clear hJ J
  have hh62 := Bt hh61 hb62
  clear hh61 hb62
  clear cX3 lX3 cX2 lX2 cX4 lX4 cX5 lX5
  have cX3 := (X3.out.later hh62).cell; have lX3 := (X3.out.later hh62).lt
  have cX2 := (X2.out.later hh62).cell; have lX2 := (X2.out.later hh62).lt
  have cX4 := (X4.out.later hh62).cell; have lX4 := (X4.out.later hh62).lt
  have cX5 := (X5.out.later hh62).cell; have lX5 := (X5.out.later hh62).lt
  repeat (first | (refine walk_pure0 rfl rfl (fun J hJ => ?_); go_simp; refine hJ _ ?_; clear hJ J) | (refine walk_load rfl rfl rfl rfl (fun J hJ => ?_); go_simp; refine hJ _ ?_; clear hJ J; try go_simp) | (refine walk_pureG rfl rfl (fun J hJ => ?_); go_simp; refine hJ _ ?_; clear hJ J) | (refine walk_loadG rfl rfl rfl rfl (fun J hJ => ?_); go_simp; refine hJ _ ?_; clear hJ J; try go_simp))
  refine walk_extG rfl rfl (fun we63 hb63 J hJ => ?_); go_simp
  have hh63 : Below wq59.heap.size wq59 we63 := Bt hh62 belA
  clear hh62
  clear hb63
  refine (ret_row _ _ ⟨⟨d1, d2⟩, ⟨d3, d4⟩, ⟨d5, d6⟩⟩ _ (HVC1.out.later hh63) F1.out.1 F1.out.2 _ (Below.refl _ _)).mono ?_
  rintro e wc64 ⟨rfl, hb64⟩
  refine hJ _ _ hb64 ?_
  clear hJ J
  have hh64 := Bt hh63 hb64
  clear hh63 hb64
  clear cX3 lX3 cX2 lX2 cX4 lX4 cX5 lX5
  have cX3 := (X3.out.later hh64).cell; have lX3 := (X3.out.later hh64).lt
  have cX2 := (X2.out.later hh64).cell; have lX2 := (X2.out.later hh64).lt
  have cX4 := (X4.out.later hh64).cell; have lX4 := (X4.out.later hh64).lt
  have cX5 := (X5.out.later hh64).cell; have lX5 := (X5.out.later hh64).lt
  repeat (first | (refine walk_pure0 rfl rfl (fun J hJ => ?_); go_simp; refine hJ _ ?_; clear hJ J) | (refine walk_load rfl rfl rfl rfl (fun J hJ => ?_); go_simp; refine hJ _ ?_; clear hJ J; try go_simp) | (refine walk_pureG rfl rfl (fun J hJ => ?_); go_simp; refine hJ _ ?_; clear hJ J) | (refine walk_loadG rfl rfl rfl rfl (fun J hJ => ?_); go_simp; refine hJ _ ?_; clear hJ J; try go_simp))
  refine walk_extG rfl rfl (fun we65 hb65 J hJ => ?_); go_simp
  have hh65 : Below wq59.heap.size wq59 we65 := Bt hh64 belA
  clear hh64
  clear hb65
  refine (T5.out _ (Bt hk60 hh65)).mono ?_
  rintro e wc66 ⟨rfl, hb66⟩
  refine hJ _ _ hb66 ?_
  clear hJ J
  have hh66 := Bt hh65 hb66
  clear hh65 hb66
  clear cX3 lX3 cX2 lX2 cX4 lX4 cX5 lX5
  have cX3 := (X3.out.later hh66).cell; have lX3 := (X3.out.later hh66).lt
  have cX2 := (X2.out.later hh66).cell; have lX2 := (X2.out.later hh66).lt
  have cX4 := (X4.out.later hh66).cell; have lX4 := (X4.out.later hh66).lt
  have cX5 := (X5.out.later hh66).cell; have lX5 := (X5.out.later hh66).lt
  repeat (first | (refine walk_pure0 rfl rfl (fun J hJ => ?_); go_simp; refine hJ _ ?_; clear hJ J) | (refine walk_load rfl rfl rfl rfl (fun J hJ => ?_); go_simp; refine hJ _ ?_; clear hJ J; try go_simp) | (refine walk_pureG rfl rfl (fun J hJ => ?_); go_simp; refine hJ _ ?_; clear hJ J) | (refine walk_loadG rfl rfl rfl rfl (fun J hJ => ?_); go_simp; refine hJ _ ?_; clear hJ J; try go_simp))
  refine walk_extG rfl rfl (fun we67 hb67 J hJ => ?_); go_simp
  have hh67 : Below wq59.heap.size wq59 we67 := Bt hh66 belA
  clear hh66
  clear hb67
  refine (ret_row _ _ ⟨⟨e1, e2⟩, ⟨e3, e4⟩, ⟨e5, e6⟩⟩ _ (HVC3.out.later hh67) F3.out.1 F3.out.2 _ (Below.refl _ _)).mono ?_
  rintro e wc68 ⟨rfl, hb68⟩
  refine hJ _ _ hb68 ?_
  clear hJ J
  have hh68 := Bt hh67 hb68
  clear hh67 hb68
  clear cX3 lX3 cX2 lX2 cX4 lX4 cX5 lX5
  have cX3 := (X3.out.later hh68).cell; have lX3 := (X3.out.later hh68).lt
  have cX2 := (X2.out.later hh68).cell; have lX2 := (X2.out.later hh68).lt
  have cX4 := (X4.out.later hh68).cell; have lX4 := (X4.out.later hh68).lt
  have cX5 := (X5.out.later hh68).cell; have lX5 := (X5.out.later hh68).lt
  repeat (first | (refine walk_pure0 rfl rfl (fun J hJ => ?_); go_simp; refine hJ _ ?_; clear hJ J) | (refine walk_load rfl rfl rfl rfl (fun J hJ => ?_); go_simp; refine hJ _ ?_; clear hJ J; try go_simp) | (refine walk_pureG rfl rfl (fun J hJ => ?_); go_simp; refine hJ _ ?_; clear hJ J) | (refine walk_loadG rfl rfl rfl rfl (fun J hJ => ?_); go_simp; refine hJ _ ?_; clear hJ J; try go_simp))
  refine walk_extG rfl rfl (fun we69 hb69 J hJ => ?_); go_simp
  have hh69 : Below wq59.heap.size wq59 we69 := Bt hh68 belA
  clear hh68
  clear hb69
  refine (T6.out _ (Bt hk60 hh69)).mono ?_
  rintro e wc70 ⟨rfl, hb70⟩
  refine hJ _ _ hb70 ?_
  clear hJ J
  have hh70 := Bt hh69 hb70
  clear hh69 hb70
  clear cX3 lX3 cX2 lX2 cX4 lX4 cX5 lX5
  have cX5 := (X5.out.later hh70).cell; have lX5 := (X5.out.later hh70).lt
  have cX2 := (X2.out.later hh70).cell; have lX2 := (X2.out.later hh70).lt
  repeat (first | (refine walk_pure0 rfl rfl (fun J hJ => ?_); go_simp; refine hJ _ ?_; clear hJ J) | (refine walk_load rfl rfl rfl rfl (fun J hJ => ?_); go_simp; refine hJ _ ?_; clear hJ J; try go_simp) | (refine walk_pureG rfl rfl (fun J hJ => ?_); go_simp; refine hJ _ ?_; clear hJ J) | (refine walk_loadG rfl rfl rfl rfl (fun J hJ => ?_); go_simp; refine hJ _ ?_; clear hJ J; try go_simp))
  refine walk_extG rfl rfl (fun we71 hb71 J hJ => ?_); go_simp
  have hh71 : Below wq59.heap.size wq59 we71 := Bt hh70 belA
  clear hh70
  clear hb71
  refine (T7.out _ (Bt hk60 hh71)).mono ?_
  rintro e wc72 ⟨rfl, hb72⟩
  refine hJ _ _ hb72 ?_
  clear hJ J
  have hh72 := Bt hh71 hb72
  clear hh71 hb72
  clear cX5 lX5 cX2 lX2
  have cX5 := (X5.out.later hh72).cell; have lX5 := (X5.out.later hh72).lt
  have cX2 := (X2.out.later hh72).cell; have lX2 := (X2.out.later hh72).lt
  repeat (first | (refine walk_pure0 rfl rfl (fun J hJ => ?_); go_simp; refine hJ _ ?_; clear hJ J) | (refine walk_load rfl rfl rfl rfl (fun J hJ => ?_); go_simp; refine hJ _ ?_; clear hJ J; try go_simp) | (refine walk_pureG rfl rfl (fun J hJ => ?_); go_simp; refine hJ _ ?_; clear hJ J) | (refine walk_loadG rfl rfl rfl rfl (fun J hJ => ?_); go_simp; refine hJ _ ?_; clear hJ J; try go_simp))
  refine walk_extG rfl rfl (fun we73 hb73 J hJ => ?_); go_simp
  have hh73 : Below wq59.heap.size wq59 we73 := Bt hh72 belA
  clear hh72
  clear hb73
  refine (ret_row _ _ ⟨⟨g1, g2⟩, ⟨g3, g4⟩, ⟨g5, g6⟩⟩ _ (HVM1.out.later hh73) FM.out.1 FM.out.2 _ (Below.refl _ _)).mono ?_
  rintro e wc74 ⟨rfl, hb74⟩
  refine hJ _ _ hb74 ?_
  clear hJ J
  have hh74 := Bt hh73 hb74
  clear hh73 hb74
  clear cX5 lX5 cX2 lX2
  have cX5 := (X5.out.later hh74).cell; have lX5 := (X5.out.later hh74).lt
  have cX2 := (X2.out.later hh74).cell; have lX2 := (X2.out.later hh74).lt
  repeat (first | (refine walk_pure0 rfl rfl (fun J hJ => ?_); go_simp; refine hJ _ ?_; clear hJ J) | (refine walk_load rfl rfl rfl rfl (fun J hJ => ?_); go_simp; refine hJ _ ?_; clear hJ J; try go_simp) | (refine walk_pureG rfl rfl (fun J hJ => ?_); go_simp; refine hJ _ ?_; clear hJ J) | (refine walk_loadG rfl rfl rfl rfl (fun J hJ => ?_); go_simp; refine hJ _ ?_; clear hJ J; try go_simp))
  refine walk_fin [_] rfl (fun wf75 hf75 => ?_)
  have hh75 : Below wq59.heap.size wq59 wf75 := Bt hh74 belA
  clear hf75 hh74
  clear cX5 lX5 cX2 lX2
  replace X2 := Lib.hid (X2.out.later hh75)
  replace HVC1 := Lib.hid (HVC1.out.later hh75)
  replace HVC3 := Lib.hid (HVC3.out.later hh75)
  replace X3 := Lib.hid (X3.out.later hh75)
  replace X4 := Lib.hid (X4.out.later hh75)
  replace HVM1 := Lib.hid (HVM1.out.later hh75)
  replace X5 := Lib.hid (X5.out.later hh75)
  have hk76 := Bt hk60 hh75
  clear hk60
  clear hh75
  go_wp2_with fail
  go_ret
  exact ⟨rfl, hk76⟩
end Go.Proofs.verdigrislaw25
namespace Go.Proofs.verdigrislaw25
open Go Go.RowKit Go.SW Go.Num Go.Mem Go.Proofs Go.Dec Go.Fra

/-- The white at which the second response of von Kries vanishes. -/
def zT : light.Tri := ⟨Fr.of (q2 121102 22630), Fr.of (q2 1 1), Fr.of (q2 1 1)⟩
def kT : matrix.RM := adapt.matR 2 (tq 1 1 1 1) zT (Fr.of (q2 1 1))
def idM (n : Nat) : List (List Fr) := diagM (List.replicate n Fr.one)
theorem ret_id (n : Nat) (h : idE n = 0) (w : World) : RetM w 29 #[.int .i64 n] 0 (idM n) := fun W hW => (matrix.Identity_ok n W).mono (by
  rw [h]
  exact fun _ _ h => h)
theorem MatV.nil (w : World) : MatV w (.slice none 0 0) [] := ⟨[], Row.nil _ _, rfl, fun i h => by cases h⟩
theorem ret_det (m : matrix.RM) (q : Rat) (ok : m.ok m.length) (hq : matrix.detQ m = q) (h : okq q = true) (w : World) (ht : Bld.Pow w) (va : Value) (hv : MatV w va m.fr) : Ret w 28 #[va] (.tuple #[(Fr.of q).v, .int .i64 0]) := fun W hW =>
  (matrix.Det_main va m W (hv.later hW) ok (ht.later hW)).mono (by
    have e : Fr.res (Fra.wr (matrix.detQ m)) = .tuple #[(Fr.of q).v, .int .i64 0] := by
      rw [hq]; unfold Fra.wr; rw [if_pos h]; rfl
    rw [e]
    exact fun _ _ h => h)
theorem kT_ok : kT.ok kT.length := by
  have h : kT.length = 3 ∧ (kT.all fun r => r.length == 3 && r.all okq) = true := by decide +kernel
  rw [h.1]
  refine ⟨by omega, by omega, by omega, by omega, fun r hr => ?_⟩
  have := List.all_eq_true.1 h.2 r hr
  simp only [Bool.and_eq_true, beq_iff_eq] at this
  exact ⟨this.1, fun q hq => List.all_eq_true.1 this.2 q hq⟩

set_option maxRecDepth 100000 in
set_option maxHeartbeats 8000000 in
theorem AdaptKnown_ok (w : World) (ht : Bld.Pow w) (hc : adapt.Cones w) : Calls Tryz.prog 7 #[] w (fun e w' => e = .returned (.bool true) ∧ Below w.heap.size w w') := by
  have W1 : Hid (Ret w 9 #[] (.bool true)) := Lib.hid fun W hW => works_ok W (ht.later hW) (hc.later hW)
  have T1 := Lib.hid (ret_tri 1 1 1 1 (by decide +kernel) w ht)
  have T2 := Lib.hid (ret_tri 1 1 0 1 (by decide +kernel) w ht)
  have T3 := Lib.hid (ret_tri 116532 22630 0 22630 (by decide +kernel) w ht)
  have T4 := Lib.hid (ret_tri (-1) 1 1 1 (by decide +kernel) w ht)
  have T5 := Lib.hid (ret_tri 40024 70760 (-8081) 100000 (by decide +kernel) w ht)
  have O1 := Lib.hid (ret_of 1 1 (by decide +kernel) w ht)
  have O2 := Lib.hid (ret_of (-1) 9 (by decide +kernel) w ht)
  have O3 := Lib.hid (ret_of 121102 22630 (by decide +kernel) w ht)
  have O4 := Lib.hid (ret_of 0 1 (by decide +kernel) w ht)
  have G1 := Lib.hid (ret_gains 0 adapt.noTri adapt.noTri Fr.no 2 adapt.noTri (by decide +kernel) (if_neg (by decide)) w ht hc)
  have G2 := Lib.hid (ret_gains 1 adapt.noTri (tq 1 1 0 1) Fr.no 20 adapt.noTri (by decide +kernel) (if_neg (by decide)) w ht hc)
  have G3 := Lib.hid (ret_gains 1 (tq 1 1 1 1) (tq 1 1 0 1) Fr.no 2 adapt.noTri (by decide +kernel) (if_neg (by decide)) w ht hc)
  have G4 := Lib.hid (ret_gains 1 (tq 1 1 1 1) (tq 1 1 1 1) Fr.no 20 adapt.noTri (by decide +kernel) (if_neg (by decide)) w ht hc)
  have G5 := Lib.hid (ret_gains 1 (tq 1 1 1 1) (tq 1 1 1 1) (Fr.of (q2 (-1) 9)) 2 adapt.noTri (by decide +kernel) (if_neg (by decide)) w ht hc)
  have G6 := Lib.hid (ret_gains 2 (tq 116532 22630 0 22630) (tq 1 1 1 1) (Fr.of (q2 1 1)) 2 adapt.noTri (by decide +kernel) (if_neg (by decide)) w ht hc)
  have G7 := Lib.hid (ret_gains 2 zT (tq 1 1 1 1) (Fr.of (q2 1 1)) 7 adapt.noTri (by decide +kernel) (if_neg (by decide)) w ht hc)
  have M1 := Lib.hid (ret_matrix 2 zT (tq 1 1 1 1) (Fr.of (q2 0 1)) 7 (by decide +kernel) w ht hc)
  have M2 : Hid (RetM w 13 #[.int .i64 2, (tq 1 1 1 1).v, zT.v, (Fr.of (q2 1 1)).v] 0 kT.fr) := Lib.hid (ret_matrix 2 (tq 1 1 1 1) zT (Fr.of (q2 1 1)) 0 (by decide +kernel) w ht hc)
  have M3 := Lib.hid (ret_matrix 5 adapt.noTri adapt.noTri Fr.no 2 (by decide +kernel) w ht hc)
  have D1 : Hid (∀ va W, Below w.heap.size w W → MatV W va kT.fr → Ret W 28 #[va] (.tuple #[(Fr.of (q2 0 1)).v, .int .i64 0])) := Lib.hid fun va W hW hm => ret_det kT (q2 0 1) kT_ok (by decide +kernel) (by decide +kernel) W (ht.later hW) va hm
  have A0 := Lib.hid (ret_adapt (.slice none 0 0) [] adapt.noTri 50 adapt.noTri (by decide +kernel) (if_neg (by decide)) w (MatV.nil w) ht)
  have I2 := Lib.hid (ret_id 2 (by decide) w)
  have I3 := Lib.hid (ret_id 3 (by decide) w)
  have A1 : Hid (∀ va W, Below w.heap.size w W → MatV W va (idM 2) → Ret W 20 #[va, adapt.noTri.v] (.tuple #[adapt.noTri.v, .int .i64 20])) := Lib.hid fun va W hW hm =>
    ret_adapt va _ adapt.noTri 20 adapt.noTri (by decide +kernel) (if_neg (by decide)) W hm (ht.later hW)
  have A2 : Hid (∀ va W, Below w.heap.size w W → MatV W va (idM 2) → Ret W 20 #[va, (tq 1 1 1 1).v] (.tuple #[adapt.noTri.v, .int .i64 2])) := Lib.hid fun va W hW hm =>
    ret_adapt va _ (tq 1 1 1 1) 2 adapt.noTri (by decide +kernel) (if_neg (by decide)) W hm (ht.later hW)
  have A3 : Hid (∀ va W, Below w.heap.size w W → MatV W va (idM 3) → Ret W 20 #[va, (tq (-1) 1 1 1).v] (.tuple #[adapt.noTri.v, .int .i64 2])) := Lib.hid fun va W hW hm =>
    ret_adapt va _ (tq (-1) 1 1 1) 2 adapt.noTri (by decide +kernel) (if_neg (by decide)) W hm (ht.later hW)
  have A4 : Hid (∀ va W, Below w.heap.size w W → MatV W va (idM 3) → Ret W 20 #[va, (tq 1 1 0 1).v] (.tuple #[(tq 1 1 0 1).v, .int .i64 0])) := Lib.hid fun va W hW hm =>
    ret_adapt va _ (tq 1 1 0 1) 0 (tq 1 1 0 1) (by decide +kernel) (by rw [if_pos rfl]; exact tri3_tq (by decide +kernel)) W hm (ht.later hW)
  have C2 := Lib.hid (ret_cone 2 0 rfl w ht hc)
  have FC : Hid (Fst (adapt.coneR ((2 : Int) - 1).toNat).fr (tq 40024 70760 (-8081) 100000)) := Lib.hid ⟨rfl, head_tq (by decide +kernel)⟩
  obtain ⟨mc, E⟩ : ∃ y, (adapt.coneR ((2 : Int) - 1).toNat).fr = y := ⟨_, rfl⟩
  rw [E] at C2 FC
  clear E
  obtain ⟨mk, E⟩ : ∃ y, kT.fr = y := ⟨_, rfl⟩
  rw [E] at M2 D1
  clear E
  obtain ⟨i2, E⟩ : ∃ y, idM 2 = y := ⟨_, rfl⟩
  rw [E] at I2 A1 A2
  clear E
  obtain ⟨i3, E⟩ : ∃ y, idM 3 = y := ⟨_, rfl⟩
  rw [E] at I3 A3 A4
  clear E
  obtain ⟨m1, E⟩ : ∃ y, (adapt.matR 2 zT (tq 1 1 1 1) (Fr.of (q2 0 1))).fr = y := ⟨_, rfl⟩
  rw [E] at M1
  clear E
  obtain ⟨m3, E⟩ : ∃ y, (adapt.matR 5 adapt.noTri adapt.noTri Fr.no).fr = y := ⟨_, rfl⟩
  rw [E] at M3
  clear E
  unfold zT at G7 M1 M2
  obtain ⟨⟨⟨a1, a2⟩, ⟨a3, a4⟩, ⟨a5, a6⟩⟩, E⟩ : ∃ y : light.Tri, tq 1 1 1 1 = y := ⟨_, rfl⟩
  simp only [E] at T1 G3 G4 G5 G6 G7 M1 M2 A2
  clear E
  obtain ⟨⟨⟨b1, b2⟩, ⟨b3, b4⟩, ⟨b5, b6⟩⟩, E⟩ : ∃ y : light.Tri, tq 1 1 0 1 = y := ⟨_, rfl⟩
  simp only [E] at T2 G2 G3 A4
  clear E
  obtain ⟨⟨⟨c1, c2⟩, ⟨c3, c4⟩, ⟨c5, c6⟩⟩, E⟩ : ∃ y : light.Tri, tq 116532 22630 0 22630 = y := ⟨_, rfl⟩
  simp only [E] at T3 G6
  clear E
  obtain ⟨⟨⟨d1, d2⟩, ⟨d3, d4⟩, ⟨d5, d6⟩⟩, E⟩ : ∃ y : light.Tri, tq (-1) 1 1 1 = y := ⟨_, rfl⟩
  simp only [E] at T4 A3
  clear E
  obtain ⟨⟨⟨e1, e2⟩, ⟨e3, e4⟩, ⟨e5, e6⟩⟩, E⟩ : ∃ y : light.Tri, tq 40024 70760 (-8081) 100000 = y := ⟨_, rfl⟩
  simp only [E] at T5 FC
  clear E
  obtain ⟨⟨h1, h2⟩, E⟩ : ∃ y : Fr, Fr.of (q2 1 1) = y := ⟨_, rfl⟩
  simp only [E] at O1 G6 G7 M1 M2
  clear E
  obtain ⟨⟨i1, i2⟩, E⟩ : ∃ y : Fr, Fr.of (q2 (-1) 9) = y := ⟨_, rfl⟩
  simp only [E] at O2 G5
  clear E
  obtain ⟨⟨j1, j2⟩, E⟩ : ∃ y : Fr, Fr.of (q2 121102 22630) = y := ⟨_, rfl⟩
  simp only [E] at O3 G7 M1 M2
  clear E
  obtain ⟨⟨l1, l2⟩, E⟩ : ∃ y : Fr, Fr.of (q2 0 1) = y := ⟨_, rfl⟩
  simp only [E] at O4 M1 D1
  clear E
  unfold light.Tri.v light.Tri.cells Fr.v at *
  unfold adapt.noTri at G1 G2 G3 G4 G5 G6 G7 M3 A0 A1 A2 A3
  unfold Fr.no at *
  dsimp only at T1 T2 T3 T4 T5 G1 G2 G3 G4 G5 G6 G7 M1 M2 M3 A0 A1 A2 A3 A4 O1 O2 O3 O4 D1
  clear ht hc
  go_enter Tryz.func7, Tryz.ntmps7
  have HEQ := @run_eqTri_same
  go_wp2_with fail
  refine (W1.out _ (Below.refl _ _)).mono ?_
  rintro e wc1 ⟨rfl, hb1⟩
  have hk2 := Bt (Below.refl _ _) hb1
  clear hb1
  go_wp2_with fail
  refine (T1.out _ hk2).mono ?_
  rintro e wc3 ⟨rfl, hb3⟩
  have hk4 := Bt hk2 hb3
  clear hk2
  clear hb3
  go_wp2_with fail
  refine (T2.out _ hk4).mono ?_
  rintro e wc5 ⟨rfl, hb5⟩
  have hk6 := Bt hk4 hb5
  clear hk4
  clear hb5
  go_wp2_with fail
  have hz : Below wc5.heap.size wc5 ((((wc5.alloc (.cells #[.string a1, .string a2, .string a3, .string a4, .string a5, .string a6] 38)).alloc (.cells #[.string b1, .string b2, .string b3, .string b4, .string b5, .string b6] 38)).alloc (.cells #[.string ⟨#[]⟩, .string ⟨#[]⟩] 36)).alloc (.cells #[.string ⟨#[]⟩, .string ⟨#[]⟩, .string ⟨#[]⟩, .string ⟨#[]⟩, .string ⟨#[]⟩, .string ⟨#[]⟩] 38)) := belA
  obtain ⟨wq7, EW⟩ : ∃ y, ((((wc5.alloc (.cells #[.string a1, .string a2, .string a3, .string a4, .string a5, .string a6] 38)).alloc (.cells #[.string b1, .string b2, .string b3, .string b4, .string b5, .string b6] 38)).alloc (.cells #[.string ⟨#[]⟩, .string ⟨#[]⟩] 36)).alloc (.cells #[.string ⟨#[]⟩, .string ⟨#[]⟩, .string ⟨#[]⟩, .string ⟨#[]⟩, .string ⟨#[]⟩, .string ⟨#[]⟩] 38)) = y := ⟨_, rfl⟩
  have X1 : Hid (Box wq7 (wc5.heap.size) #[.string a1, .string a2, .string a3, .string a4, .string a5, .string a6] 38) := Lib.hid (by rw [← EW]; exact Box.alloc (Box.alloc (Box.alloc (Box.new _ _ _) _) _) _)
  have X2 : Hid (Box wq7 (wc5.heap.size + 1) #[.string b1, .string b2, .string b3, .string b4, .string b5, .string b6] 38) := Lib.hid (by rw [← EW]; exact Box.alloc (Box.alloc (Box.at1 _ _ _ _) _) _)
  have X3 : Hid (Box wq7 (wc5.heap.size + 1 + 1) #[.string ⟨#[]⟩, .string ⟨#[]⟩] 36) := Lib.hid (by rw [← EW]; exact Box.alloc (Box.at2 _ _ _ _ _) _)
  have X4 : Hid (Box wq7 (wc5.heap.size + 1 + 1 + 1) #[.string ⟨#[]⟩, .string ⟨#[]⟩, .string ⟨#[]⟩, .string ⟨#[]⟩, .string ⟨#[]⟩, .string ⟨#[]⟩] 38) := Lib.hid (by rw [← EW]; exact Box.at3 _ _ _ _ _ _)
  rw [EW] at hz ⊢
  have hk8 := Bt hk6 hz
  clear hk6
  clear EW hz
  generalize wc5.heap.size = pq7 at *
  refine (G1.out _ hk8).mono ?_
  rintro e wc9 ⟨rfl, hb9⟩
  replace X1 := Lib.hid (X1.out.later hb9)
  replace X2 := Lib.hid (X2.out.later hb9)
  replace X3 := Lib.hid (X3.out.later hb9)
  replace X4 := Lib.hid (X4.out.later hb9)
  have hk10 := Bt hk8 hb9
  clear hk8
  clear hb9
  have cX4 := X4.out.cell; have lX4 := X4.out.lt
  have cX2 := X2.out.cell; have lX2 := X2.out.lt
  have cX3 := X3.out.cell; have lX3 := X3.out.lt
  go_wp2_with fail
  clear cX4 lX4 cX2 lX2 cX3 lX3
  have hz : Below wc9.heap.size wc9 (wc9.alloc (.cells #[.string ⟨#[]⟩, .string ⟨#[]⟩, .string ⟨#[]⟩, .string ⟨#[]⟩, .string ⟨#[]⟩, .string ⟨#[]⟩] 37)) := belA
  obtain ⟨wq11, EW⟩ : ∃ y, (wc9.alloc (.cells #[.string ⟨#[]⟩, .string ⟨#[]⟩, .string ⟨#[]⟩, .string ⟨#[]⟩, .string ⟨#[]⟩, .string ⟨#[]⟩] 37)) = y := ⟨_, rfl⟩
  rw [EW] at hz ⊢
  replace X1 := Lib.hid (X1.out.later hz)
  replace X2 := Lib.hid (X2.out.later hz)
  replace X3 := Lib.hid (X3.out.later hz)
  replace X4 := Lib.hid (X4.out.later hz)
  have hk12 := Bt hk10 hz
  clear hk10
  clear EW hz
  generalize wc9.heap.size = pq11 at *
  refine (G2.out _ hk12).mono ?_
  rintro e wc13 ⟨rfl, hb13⟩
  replace X1 := Lib.hid (X1.out.later hb13)
  replace X2 := Lib.hid (X2.out.later hb13)
  replace X3 := Lib.hid (X3.out.later hb13)
  replace X4 := Lib.hid (X4.out.later hb13)
  have hk14 := Bt hk12 hb13
  clear hk12
  clear hb13
  have cX1 := X1.out.cell; have lX1 := X1.out.lt
  have cX2 := X2.out.cell; have lX2 := X2.out.lt
  have cX3 := X3.out.cell; have lX3 := X3.out.lt
  go_wp2_with fail
  clear cX1 lX1 cX2 lX2 cX3 lX3
  have hz : Below wc13.heap.size wc13 (wc13.alloc (.cells #[.string ⟨#[]⟩, .string ⟨#[]⟩, .string ⟨#[]⟩, .string ⟨#[]⟩, .string ⟨#[]⟩, .string ⟨#[]⟩] 37)) := belA
  obtain ⟨wq15, EW⟩ : ∃ y, (wc13.alloc (.cells #[.string ⟨#[]⟩, .string ⟨#[]⟩, .string ⟨#[]⟩, .string ⟨#[]⟩, .string ⟨#[]⟩, .string ⟨#[]⟩] 37)) = y := ⟨_, rfl⟩
  rw [EW] at hz ⊢
  replace X1 := Lib.hid (X1.out.later hz)
  replace X2 := Lib.hid (X2.out.later hz)
  replace X3 := Lib.hid (X3.out.later hz)
  replace X4 := Lib.hid (X4.out.later hz)
  have hk16 := Bt hk14 hz
  clear hk14
  clear EW hz
  generalize wc13.heap.size = pq15 at *
  refine (G3.out _ hk16).mono ?_
  rintro e wc17 ⟨rfl, hb17⟩
  replace X1 := Lib.hid (X1.out.later hb17)
  replace X2 := Lib.hid (X2.out.later hb17)
  replace X3 := Lib.hid (X3.out.later hb17)
  replace X4 := Lib.hid (X4.out.later hb17)
  have hk18 := Bt hk16 hb17
  clear hk16
  clear hb17
  have cX1 := X1.out.cell; have lX1 := X1.out.lt
  have cX3 := X3.out.cell; have lX3 := X3.out.lt
  go_wp2_with fail
  clear cX1 lX1 cX3 lX3
  have hz : Below wc17.heap.size wc17 (wc17.alloc (.cells #[.string ⟨#[]⟩, .string ⟨#[]⟩, .string ⟨#[]⟩, .string ⟨#[]⟩, .string ⟨#[]⟩, .string ⟨#[]⟩] 37)) := belA
  obtain ⟨wq19, EW⟩ : ∃ y, (wc17.alloc (.cells #[.string ⟨#[]⟩, .string ⟨#[]⟩, .string ⟨#[]⟩, .string ⟨#[]⟩, .string ⟨#[]⟩, .string ⟨#[]⟩] 37)) = y := ⟨_, rfl⟩
  rw [EW] at hz ⊢
  replace X1 := Lib.hid (X1.out.later hz)
  replace X2 := Lib.hid (X2.out.later hz)
  replace X3 := Lib.hid (X3.out.later hz)
  replace X4 := Lib.hid (X4.out.later hz)
  have hk20 := Bt hk18 hz
  clear hk18
  clear EW hz
  generalize wc17.heap.size = pq19 at *
  refine (G4.out _ hk20).mono ?_
  rintro e wc21 ⟨rfl, hb21⟩
  replace X1 := Lib.hid (X1.out.later hb21)
  replace X2 := Lib.hid (X2.out.later hb21)
  replace X3 := Lib.hid (X3.out.later hb21)
  replace X4 := Lib.hid (X4.out.later hb21)
  have hk22 := Bt hk20 hb21
  clear hk20
  clear hb21
  go_wp2_with fail
  have hz : Below wc21.heap.size wc21 (wc21.alloc (.cells #[.string ⟨#[]⟩, .string ⟨#[]⟩, .string ⟨#[]⟩, .string ⟨#[]⟩, .string ⟨#[]⟩, .string ⟨#[]⟩] 37)) := belA
  obtain ⟨wq23, EW⟩ : ∃ y, (wc21.alloc (.cells #[.string ⟨#[]⟩, .string ⟨#[]⟩, .string ⟨#[]⟩, .string ⟨#[]⟩, .string ⟨#[]⟩, .string ⟨#[]⟩] 37)) = y := ⟨_, rfl⟩
  rw [EW] at hz ⊢
  replace X1 := Lib.hid (X1.out.later hz)
  replace X2 := Lib.hid (X2.out.later hz)
  replace X3 := Lib.hid (X3.out.later hz)
  replace X4 := Lib.hid (X4.out.later hz)
  have hk24 := Bt hk22 hz
  clear hk22
  clear EW hz
  generalize wc21.heap.size = pq23 at *
  have cX1 := X1.out.cell; have lX1 := X1.out.lt
  refine wp_region_walk [(.read, 0), (.read, 1), (.ext, 2), (.ext, 3), (.pure, 4), (.pure, 5), (.pure, 6), (.alloc #[.string ⟨#[]⟩, .string ⟨#[]⟩, .string ⟨#[]⟩, .string ⟨#[]⟩, .string ⟨#[]⟩, .string ⟨#[]⟩] 37, 7), (.fin, 8), (.fin, 9)] (by kernel_rfl) (by kernel_rfl) (allocRuns_of (by kernel_rfl)) (fun _ _ _ _ hd h => And.intro (hd.trans (And.left h)) (And.right h)) ?_
  repeat (first | (refine walk_pure0 rfl rfl (fun J hJ => ?_); go_simp; refine hJ _ ?_; clear hJ J) | (refine walk_load rfl rfl rfl rfl (fun J hJ => ?_); go_simp; refine hJ _ ?_; clear hJ J; try go_simp))
  refine walk_ext rfl rfl (fun we25 hb25 J hJ => ?_); go_simp
  have hh25 : Below wq23.heap.size wq23 we25 := belA
  clear hb25
  refine (O2.out _ (Bt hk24 hh25)).mono ?_
  rintro e wc26 ⟨rfl, hb26⟩
  refine hJ _ _ hb26 ?_
  clear hJ J
  have hh26 := Bt hh25 hb26
  clear hh25 hb26
  repeat (first | (refine walk_pure0 rfl rfl (fun J hJ => ?_); go_simp; refine hJ _ ?_; clear hJ J) | (refine walk_load rfl rfl rfl rfl (fun J hJ => ?_); go_simp; refine hJ _ ?_; clear hJ J; try go_simp))
  refine walk_ext rfl rfl (fun we27 hb27 J hJ => ?_); go_simp
  have hh27 : Below wq23.heap.size wq23 we27 := Bt hh26 belA
  clear hh26
  clear hb27
  refine (G5.out _ (Bt hk24 hh27)).mono ?_
  rintro e wc28 ⟨rfl, hb28⟩
  refine hJ _ _ hb28 ?_
  clear hJ J
  have hh28 := Bt hh27 hb28
  clear hh27 hb28
  repeat (first | (refine walk_pure0 rfl rfl (fun J hJ => ?_); go_simp; refine hJ _ ?_; clear hJ J) | (refine walk_load rfl rfl rfl rfl (fun J hJ => ?_); go_simp; refine hJ _ ?_; clear hJ J; try go_simp))
  refine walk_alloc rfl (fun bk29 wa29 hwa29 hNbk29 hltbk29 hAbk29 hxbk29 => ?_); go_simp; replace hxbk29 : Box _ _ _ _ := hxbk29; have hWbk29 : w.heap.size ≤ bk29 := (by first | omega | exact Nat.le_trans (Below.size (B := w.heap.size) belA) hNbk29)
  refine walk_fin [_, _] rfl (fun wf30 hf30 => ?_)
  have hh30 : Below wq23.heap.size wq23 wf30 := Bt hh28 belA
  have hq := hxbk29.later hf30
  have cq := hq.cell
  have fq := hq.free
  clear hxbk29 hf30 hh28
  clear cX1 lX1
  go_wp2_with fail
  obtain ⟨wq31, EW⟩ : ∃ y, ((((((wf30.setCell ⟨bk29, 0, none⟩ (.string ⟨#[]⟩)).setCell ⟨bk29, 1, none⟩ (.string ⟨#[]⟩)).setCell ⟨bk29, 2, none⟩ (.string ⟨#[]⟩)).setCell ⟨bk29, 3, none⟩ (.string ⟨#[]⟩)).setCell ⟨bk29, 4, none⟩ (.string ⟨#[]⟩)).setCell ⟨bk29, 5, none⟩ (.string ⟨#[]⟩)) = y := ⟨_, rfl⟩
  have hz : Below wq23.heap.size wq23 wq31 := by rw [← EW]; exact ((((((hh30.setCell hNbk29 _).setCell hNbk29 _).setCell hNbk29 _).setCell hNbk29 _).setCell hNbk29 _).setCell hNbk29 _)
  rw [EW]
  clear EW hq cq fq hh30
  replace X1 := Lib.hid (X1.out.later hz)
  replace X2 := Lib.hid (X2.out.later hz)
  replace X3 := Lib.hid (X3.out.later hz)
  replace X4 := Lib.hid (X4.out.later hz)
  have hk32 := Bt hk24 hz
  clear hk24
  clear hz
  clear hwa29 hNbk29 hltbk29 hAbk29 hWbk29
  go_wp2_with fail
  have cX1 := X1.out.cell; have lX1 := X1.out.lt
  refine wp_region_walk [(.read, 1), (.ext, 0), (.ext, 2), (.ext, 3), (.pure, 4), (.pure, 5), (.pure, 6), (.alloc #[.string ⟨#[]⟩, .string ⟨#[]⟩, .string ⟨#[]⟩, .string ⟨#[]⟩, .string ⟨#[]⟩, .string ⟨#[]⟩] 37, 7), (.fin, 8), (.fin, 9)] (by kernel_rfl) (by kernel_rfl) (allocRuns_of (by kernel_rfl)) (fun _ _ _ _ hd h => And.intro (hd.trans (And.left h)) (And.right h)) ?_
  repeat (first | (refine walk_pure0 rfl rfl (fun J hJ => ?_); go_simp; refine hJ _ ?_; clear hJ J) | (refine walk_load rfl rfl rfl rfl (fun J hJ => ?_); go_simp; refine hJ _ ?_; clear hJ J; try go_simp))
  refine walk_ext rfl rfl (fun we33 hb33 J hJ => ?_); go_simp
  have hh33 : Below wq31.heap.size wq31 we33 := belA
  clear hb33
  refine (T3.out _ (Bt hk32 hh33)).mono ?_
  rintro e wc34 ⟨rfl, hb34⟩
  refine hJ _ _ hb34 ?_
  clear hJ J
  have hh34 := Bt hh33 hb34
  clear hh33 hb34
  repeat (first | (refine walk_pure0 rfl rfl (fun J hJ => ?_); go_simp; refine hJ _ ?_; clear hJ J) | (refine walk_load rfl rfl rfl rfl (fun J hJ => ?_); go_simp; refine hJ _ ?_; clear hJ J; try go_simp))
  refine walk_ext rfl rfl (fun we35 hb35 J hJ => ?_); go_simp
  have hh35 : Below wq31.heap.size wq31 we35 := Bt hh34 belA
  clear hh34
  clear hb35
  refine (O1.out _ (Bt hk32 hh35)).mono ?_
  rintro e wc36 ⟨rfl, hb36⟩
  refine hJ _ _ hb36 ?_
  clear hJ J
  have hh36 := Bt hh35 hb36
  clear hh35 hb36
  repeat (first | (refine walk_pure0 rfl rfl (fun J hJ => ?_); go_simp; refine hJ _ ?_; clear hJ J) | (refine walk_load rfl rfl rfl rfl (fun J hJ => ?_); go_simp; refine hJ _ ?_; clear hJ J; try go_simp))
  refine walk_ext rfl rfl (fun we37 hb37 J hJ => ?_); go_simp
  have hh37 : Below wq31.heap.size wq31 we37 := Bt hh36 belA
  clear hh36
  clear hb37
  refine (G6.out _ (Bt hk32 hh37)).mono ?_
  rintro e wc38 ⟨rfl, hb38⟩
  refine hJ _ _ hb38 ?_
  clear hJ J
  have hh38 := Bt hh37 hb38
  clear hh37 hb38
  repeat (first | (refine walk_pure0 rfl rfl (fun J hJ => ?_); go_simp; refine hJ _ ?_; clear hJ J) | (refine walk_load rfl rfl rfl rfl (fun J hJ => ?_); go_simp; refine hJ _ ?_; clear hJ J; try go_simp))
  refine walk_alloc rfl (fun bk39 wa39 hwa39 hNbk39 hltbk39 hAbk39 hxbk39 => ?_); go_simp; replace hxbk39 : Box _ _ _ _ := hxbk39; have hWbk39 : w.heap.size ≤ bk39 := (by first | omega | exact Nat.le_trans (Below.size (B := w.heap.size) belA) hNbk39)
  refine walk_fin [_, _] rfl (fun wf40 hf40 => ?_)
  have hh40 : Below wq31.heap.size wq31 wf40 := Bt hh38 belA
  have hq := hxbk39.later hf40
  have cq := hq.cell
  have fq := hq.free
  clear hxbk39 hf40 hh38
  clear cX1 lX1
  go_wp2_with fail
  obtain ⟨wq41, EW⟩ : ∃ y, ((((((wf40.setCell ⟨bk39, 0, none⟩ (.string ⟨#[]⟩)).setCell ⟨bk39, 1, none⟩ (.string ⟨#[]⟩)).setCell ⟨bk39, 2, none⟩ (.string ⟨#[]⟩)).setCell ⟨bk39, 3, none⟩ (.string ⟨#[]⟩)).setCell ⟨bk39, 4, none⟩ (.string ⟨#[]⟩)).setCell ⟨bk39, 5, none⟩ (.string ⟨#[]⟩)) = y := ⟨_, rfl⟩
  have hz : Below wq31.heap.size wq31 wq41 := by rw [← EW]; exact ((((((hh40.setCell hNbk39 _).setCell hNbk39 _).setCell hNbk39 _).setCell hNbk39 _).setCell hNbk39 _).setCell hNbk39 _)
  rw [EW]
  clear EW hq cq fq hh40
  replace X1 := Lib.hid (X1.out.later hz)
  replace X2 := Lib.hid (X2.out.later hz)
  replace X3 := Lib.hid (X3.out.later hz)
  replace X4 := Lib.hid (X4.out.later hz)
  have hk42 := Bt hk32 hz
  clear hk32
  clear hz
  clear hwa39 hNbk39 hltbk39 hAbk39 hWbk39
  go_wp2_with fail
  refine (O3.out _ hk42).mono ?_
  rintro e wc43 ⟨rfl, hb43⟩
  replace X1 := Lib.hid (X1.out.later hb43)
  replace X2 := Lib.hid (X2.out.later hb43)
  replace X3 := Lib.hid (X3.out.later hb43)
  replace X4 := Lib.hid (X4.out.later hb43)
  have hk44 := Bt hk42 hb43
  clear hk42
  clear hb43
  go_wp2_with fail
  refine (O1.out _ hk44).mono ?_
  rintro e wc45 ⟨rfl, hb45⟩
  replace X1 := Lib.hid (X1.out.later hb45)
  replace X2 := Lib.hid (X2.out.later hb45)
  replace X3 := Lib.hid (X3.out.later hb45)
  replace X4 := Lib.hid (X4.out.later hb45)
  have hk46 := Bt hk44 hb45
  clear hk44
  clear hb45
  go_wp2_with fail
  refine (O1.out _ hk46).mono ?_
  rintro e wc47 ⟨rfl, hb47⟩
  replace X1 := Lib.hid (X1.out.later hb47)
  replace X2 := Lib.hid (X2.out.later hb47)
  replace X3 := Lib.hid (X3.out.later hb47)
  replace X4 := Lib.hid (X4.out.later hb47)
  have hk48 := Bt hk46 hb47
  clear hk46
  clear hb47
  go_wp2_with fail
  have hz : Below wc47.heap.size wc47 (wc47.alloc (.cells #[.string j1, .string j2, .string h1, .string h2, .string h1, .string h2] 38)) := belA
  obtain ⟨wq49, EW⟩ : ∃ y, (wc47.alloc (.cells #[.string j1, .string j2, .string h1, .string h2, .string h1, .string h2] 38)) = y := ⟨_, rfl⟩
  have X11 : Hid (Box wq49 (wc47.heap.size) #[.string j1, .string j2, .string h1, .string h2, .string h1, .string h2] 38) := Lib.hid (by rw [← EW]; exact Box.new _ _ _)
  rw [EW] at hz ⊢
  replace X1 := Lib.hid (X1.out.later hz)
  replace X2 := Lib.hid (X2.out.later hz)
  replace X3 := Lib.hid (X3.out.later hz)
  replace X4 := Lib.hid (X4.out.later hz)
  have hk50 := Bt hk48 hz
  clear hk48
  clear EW hz
  generalize wc47.heap.size = pq49 at *
  have cX11 := X11.out.cell; have lX11 := X11.out.lt
  have cX1 := X1.out.cell; have lX1 := X1.out.lt
  refine wp_region_walk [(.read, 0), (.read, 1), (.ext, 2), (.ext, 3), (.pure, 4), (.pure, 5), (.pure, 6), (.alloc #[.string ⟨#[]⟩, .string ⟨#[]⟩, .string ⟨#[]⟩, .string ⟨#[]⟩, .string ⟨#[]⟩, .string ⟨#[]⟩] 37, 7), (.fin, 8), (.fin, 9)] (by kernel_rfl) (by kernel_rfl) (allocRuns_of (by kernel_rfl)) (fun _ _ _ _ hd h => And.intro (hd.trans (And.left h)) (And.right h)) ?_
  repeat (first | (refine walk_pure0 rfl rfl (fun J hJ => ?_); go_simp; refine hJ _ ?_; clear hJ J) | (refine walk_load rfl rfl rfl rfl (fun J hJ => ?_); go_simp; refine hJ _ ?_; clear hJ J; try go_simp))
  refine walk_ext rfl rfl (fun we51 hb51 J hJ => ?_); go_simp
  have hh51 : Below wq49.heap.size wq49 we51 := belA
  clear hb51
  refine (O1.out _ (Bt hk50 hh51)).mono ?_
  rintro e wc52 ⟨rfl, hb52⟩
  refine hJ _ _ hb52 ?_
  clear hJ J
  have hh52 := Bt hh51 hb52
  clear hh51 hb52
  repeat (first | (refine walk_pure0 rfl rfl (fun J hJ => ?_); go_simp; refine hJ _ ?_; clear hJ J) | (refine walk_load rfl rfl rfl rfl (fun J hJ => ?_); go_simp; refine hJ _ ?_; clear hJ J; try go_simp))
  refine walk_ext rfl rfl (fun we53 hb53 J hJ => ?_); go_simp
  have hh53 : Below wq49.heap.size wq49 we53 := Bt hh52 belA
  clear hh52
  clear hb53
  refine (G7.out _ (Bt hk50 hh53)).mono ?_
  rintro e wc54 ⟨rfl, hb54⟩
  refine hJ _ _ hb54 ?_
  clear hJ J
  have hh54 := Bt hh53 hb54
  clear hh53 hb54
  repeat (first | (refine walk_pure0 rfl rfl (fun J hJ => ?_); go_simp; refine hJ _ ?_; clear hJ J) | (refine walk_load rfl rfl rfl rfl (fun J hJ => ?_); go_simp; refine hJ _ ?_; clear hJ J; try go_simp))
  refine walk_alloc rfl (fun bk55 wa55 hwa55 hNbk55 hltbk55 hAbk55 hxbk55 => ?_); go_simp; replace hxbk55 : Box _ _ _ _ := hxbk55; have hWbk55 : w.heap.size ≤ bk55 := (by first | omega | exact Nat.le_trans (Below.size (B := w.heap.size) belA) hNbk55)
  refine walk_fin [_, _] rfl (fun wf56 hf56 => ?_)
  have hh56 : Below wq49.heap.size wq49 wf56 := Bt hh54 belA
  have hq := hxbk55.later hf56
  have cq := hq.cell
  have fq := hq.free
  clear hxbk55 hf56 hh54
  clear cX11 lX11 cX1 lX1
  go_wp2_with fail
  obtain ⟨wq57, EW⟩ : ∃ y, ((((((wf56.setCell ⟨bk55, 0, none⟩ (.string ⟨#[]⟩)).setCell ⟨bk55, 1, none⟩ (.string ⟨#[]⟩)).setCell ⟨bk55, 2, none⟩ (.string ⟨#[]⟩)).setCell ⟨bk55, 3, none⟩ (.string ⟨#[]⟩)).setCell ⟨bk55, 4, none⟩ (.string ⟨#[]⟩)).setCell ⟨bk55, 5, none⟩ (.string ⟨#[]⟩)) = y := ⟨_, rfl⟩
  have hz : Below wq49.heap.size wq49 wq57 := by rw [← EW]; exact ((((((hh56.setCell hNbk55 _).setCell hNbk55 _).setCell hNbk55 _).setCell hNbk55 _).setCell hNbk55 _).setCell hNbk55 _)
  rw [EW]
  clear EW hq cq fq hh56
  replace X1 := Lib.hid (X1.out.later hz)
  replace X2 := Lib.hid (X2.out.later hz)
  replace X3 := Lib.hid (X3.out.later hz)
  replace X4 := Lib.hid (X4.out.later hz)
  replace X11 := Lib.hid (X11.out.later hz)
  have hk58 := Bt hk50 hz
  clear hk50
  clear hz
  clear hwa55 hNbk55 hltbk55 hAbk55 hWbk55
  go_wp2_with fail
  have cX11 := X11.out.cell; have lX11 := X11.out.lt
  have cX1 := X1.out.cell; have lX1 := X1.out.lt
  refine wp_region_walk [(.read, 0), (.read, 1), (.ext, 2), (.ext, 3), (.pure, 4), (.pure, 5), (.pure, 6), (.fin, 7), (.fin, 8)] (by kernel_rfl) (by kernel_rfl) (allocRuns_of (by kernel_rfl)) (fun _ _ _ _ hd h => And.intro (hd.trans (And.left h)) (And.right h)) ?_
  repeat (first | (refine walk_pure0 rfl rfl (fun J hJ => ?_); go_simp; refine hJ _ ?_; clear hJ J) | (refine walk_load rfl rfl rfl rfl (fun J hJ => ?_); go_simp; refine hJ _ ?_; clear hJ J; try go_simp))
  refine walk_ext rfl rfl (fun we59 hb59 J hJ => ?_); go_simp
  have hh59 : Below wq57.heap.size wq57 we59 := belA
  clear hb59
  refine (O4.out _ (Bt hk58 hh59)).mono ?_
  rintro e wc60 ⟨rfl, hb60⟩
  refine hJ _ _ hb60 ?_
  clear hJ J
  have hh60 := Bt hh59 hb60
  clear hh59 hb60
  repeat (first | (refine walk_pure0 rfl rfl (fun J hJ => ?_); go_simp; refine hJ _ ?_; clear hJ J) | (refine walk_load rfl rfl rfl rfl (fun J hJ => ?_); go_simp; refine hJ _ ?_; clear hJ J; try go_simp))
  refine walk_ext rfl rfl (fun we61 hb61 J hJ => ?_); go_simp
  have hh61 : Below wq57.heap.size wq57 we61 := Bt hh60 belA
  clear hh60
  clear hb61
  refine (M1.out _ (Bt hk58 hh61)).mono ?_
  rintro e wc62 ⟨hb62, v, rfl, -, hy⟩
  have hz := hy (by decide)
  subst hz
  clear hy
  refine hJ _ _ hb62 ?_
  clear hJ J
  have hh62 := Bt hh61 hb62
  clear hh61 hb62
  repeat (first | (refine walk_pure0 rfl rfl (fun J hJ => ?_); go_simp; refine hJ _ ?_; clear hJ J) | (refine walk_load rfl rfl rfl rfl (fun J hJ => ?_); go_simp; refine hJ _ ?_; clear hJ J; try go_simp))
  refine walk_fin [_, _] rfl (fun wf64 hf64 => ?_)
  have hh64 : Below wq57.heap.size wq57 wf64 := Bt hh62 belA
  clear hf64 hh62
  clear cX11 lX11 cX1 lX1
  replace X1 := Lib.hid (X1.out.later hh64)
  replace X2 := Lib.hid (X2.out.later hh64)
  replace X3 := Lib.hid (X3.out.later hh64)
  replace X4 := Lib.hid (X4.out.later hh64)
  replace X11 := Lib.hid (X11.out.later hh64)
  have hk65 := Bt hk58 hh64
  clear hk58
  clear hh64
  go_wp2_with fail
  have cX1 := X1.out.cell; have lX1 := X1.out.lt
  have cX11 := X11.out.cell; have lX11 := X11.out.lt
  refine wp_region_walk [(.read, 0), (.read, 1), (.ext, 2), (.ext, 3), (.pure, 4), (.pure, 5), (.pure, 6), (.fin, 7), (.fin, 8)] (by kernel_rfl) (by kernel_rfl) (allocRuns_of (by kernel_rfl)) (fun _ _ _ _ hd h => And.intro (hd.trans (And.left h)) (And.right h)) ?_
  repeat (first | (refine walk_pure0 rfl rfl (fun J hJ => ?_); go_simp; refine hJ _ ?_; clear hJ J) | (refine walk_load rfl rfl rfl rfl (fun J hJ => ?_); go_simp; refine hJ _ ?_; clear hJ J; try go_simp))
  refine walk_ext rfl rfl (fun we66 hb66 J hJ => ?_); go_simp
  have hh66 : Below wf64.heap.size wf64 we66 := belA
  clear hb66
  refine (O1.out _ (Bt hk65 hh66)).mono ?_
  rintro e wc67 ⟨rfl, hb67⟩
  refine hJ _ _ hb67 ?_
  clear hJ J
  have hh67 := Bt hh66 hb67
  clear hh66 hb67
  repeat (first | (refine walk_pure0 rfl rfl (fun J hJ => ?_); go_simp; refine hJ _ ?_; clear hJ J) | (refine walk_load rfl rfl rfl rfl (fun J hJ => ?_); go_simp; refine hJ _ ?_; clear hJ J; try go_simp))
  refine walk_ext rfl rfl (fun we68 hb68 J hJ => ?_); go_simp
  have hh68 : Below wf64.heap.size wf64 we68 := Bt hh67 belA
  clear hh67
  clear hb68
  refine (M2.out _ (Bt hk65 hh68)).mono ?_
  rintro e wc69 ⟨hb69, v, rfl, hy, -⟩
  have hv70 := hy rfl
  obtain ⟨rs, hR, -⟩ := id hv70
  obtain ⟨vm70, qm70, rfl, -⟩ := hR
  generalize rs.length = nm70 at hv70 hJ
  clear hy
  refine hJ _ _ hb69 ?_
  clear hJ J
  have hh69 := Bt hh68 hb69
  have hl69 := hb69
  clear hh68 hb69
  clear hl69
  repeat (first | (refine walk_pure0 rfl rfl (fun J hJ => ?_); go_simp; refine hJ _ ?_; clear hJ J) | (refine walk_load rfl rfl rfl rfl (fun J hJ => ?_); go_simp; refine hJ _ ?_; clear hJ J; try go_simp))
  refine walk_fin [_, _] rfl (fun wf71 hf71 => ?_)
  have hh71 : Below wf64.heap.size wf64 wf71 := Bt hh69 belA
  have HVM2 := Lib.hid (hv70.later (w' := wf71) belA)
  clear hv70
  clear hf71 hh69
  clear cX1 lX1 cX11 lX11
  replace X1 := Lib.hid (X1.out.later hh71)
  replace X2 := Lib.hid (X2.out.later hh71)
  replace X3 := Lib.hid (X3.out.later hh71)
  replace X4 := Lib.hid (X4.out.later hh71)
  replace X11 := Lib.hid (X11.out.later hh71)
  have hk72 := Bt hk65 hh71
  clear hk65
  clear hh71
  go_wp2_with fail
  refine (D1.out _ _ hk72 HVM2.out _ (Below.refl _ _)).mono ?_
  rintro e wc73 ⟨rfl, hb73⟩
  replace X1 := Lib.hid (X1.out.later hb73)
  replace X2 := Lib.hid (X2.out.later hb73)
  replace X3 := Lib.hid (X3.out.later hb73)
  replace X4 := Lib.hid (X4.out.later hb73)
  clear X11
  replace HVM2 := Lib.hid (HVM2.out.later hb73)
  have hk74 := Bt hk72 hb73
  clear hk72
  clear hb73
  go_wp2_with fail
  have hz : Below wc73.heap.size wc73 (wc73.alloc (.cells #[.string l1, .string l2] 36)) := belA
  obtain ⟨wq75, EW⟩ : ∃ y, (wc73.alloc (.cells #[.string l1, .string l2] 36)) = y := ⟨_, rfl⟩
  have X13 : Hid (Box wq75 (wc73.heap.size) #[.string l1, .string l2] 36) := Lib.hid (by rw [← EW]; exact Box.new _ _ _)
  rw [EW] at hz ⊢
  replace X1 := Lib.hid (X1.out.later hz)
  replace X2 := Lib.hid (X2.out.later hz)
  replace X3 := Lib.hid (X3.out.later hz)
  replace X4 := Lib.hid (X4.out.later hz)
  clear HVM2
  have hk76 := Bt hk74 hz
  clear hk74
  clear EW hz
  generalize wc73.heap.size = pq75 at *
  have cX13 := X13.out.cell; have lX13 := X13.out.lt
  refine wp_region_walk [(.pure, 0), (.pure, 1), (.pure, 2), (.pure, 3), (.pure, 4), (.pure, 5), (.pure, 6), (.pure, 7), (.pure, 8), (.pure, 9), (.pure, 10), (.pure, 11), (.pure, 12), (.pure, 13), (.pure, 14), (.pure, 15), (.pure, 16), (.pure, 17), (.pure, 18), (.pure, 19), (.pure, 20), (.pure, 21), (.pure, 22), (.pure, 23), (.pure, 24), (.pure, 25), (.pure, 26), (.pure, 27), (.pure, 28), (.pure, 29), (.pure, 30), (.pure, 31), (.pure, 32), (.pure, 33), (.pure, 34), (.pure, 35), (.pure, 36), (.pure, 37), (.pure, 38), (.read, 39), (.ext, 40), (.pure, 41), (.pure, 42), (.fin, 43)] (by kernel_rfl) (by kernel_rfl) (allocRuns_of (by kernel_rfl)) (fun _ _ _ _ hd h => And.intro (hd.trans (And.left h)) (And.right h)) ?_
  repeat (first | (refine walk_pure0 rfl rfl (fun J hJ => ?_); go_simp; refine hJ _ ?_; clear hJ J) | (refine walk_load rfl rfl rfl rfl (fun J hJ => ?_); go_simp; refine hJ _ ?_; clear hJ J; try go_simp) | (refine walk_pureG rfl rfl (fun J hJ => ?_); go_simp; refine hJ _ ?_; clear hJ J) | (refine walk_loadG rfl rfl rfl rfl (fun J hJ => ?_); go_simp; refine hJ _ ?_; clear hJ J; try go_simp))
  refine walk_extG rfl rfl (fun we77 hb77 J hJ => ?_); go_simp
  have hh77 : Below wq75.heap.size wq75 we77 := belA
  clear hb77
  refine (O4.out _ (Bt hk76 hh77)).mono ?_
  rintro e wc78 ⟨rfl, hb78⟩
  refine hJ _ _ hb78 ?_
  clear hJ J
  have hh78 := Bt hh77 hb78
  clear hh77 hb78
  clear cX13 lX13
  repeat (first | (refine walk_pure0 rfl rfl (fun J hJ => ?_); go_simp; refine hJ _ ?_; clear hJ J) | (refine walk_load rfl rfl rfl rfl (fun J hJ => ?_); go_simp; refine hJ _ ?_; clear hJ J; try go_simp) | (refine walk_pureG rfl rfl (fun J hJ => ?_); go_simp; refine hJ _ ?_; clear hJ J) | (refine walk_loadG rfl rfl rfl rfl (fun J hJ => ?_); go_simp; refine hJ _ ?_; clear hJ J; try go_simp))
  refine walk_fin [_] rfl (fun wf79 hf79 => ?_)
  have hh79 : Below wq75.heap.size wq75 wf79 := Bt hh78 belA
  clear hf79 hh78
  replace X1 := Lib.hid (X1.out.later hh79)
  replace X2 := Lib.hid (X2.out.later hh79)
  replace X3 := Lib.hid (X3.out.later hh79)
  replace X4 := Lib.hid (X4.out.later hh79)
  replace X13 := Lib.hid (X13.out.later hh79)
  have hk80 := Bt hk76 hh79
  clear hk76
  clear hh79
  have cX4 := X4.out.cell; have lX4 := X4.out.lt
  have cX3 := X3.out.cell; have lX3 := X3.out.lt
  go_wp2_with fail
  clear cX4 lX4 cX3 lX3
  refine (M3.out _ hk80).mono ?_
  rintro e wc81 ⟨hb81, v, rfl, -, hy⟩
  have hz := hy (by decide)
  subst hz
  clear hy
  replace X1 := Lib.hid (X1.out.later hb81)
  replace X2 := Lib.hid (X2.out.later hb81)
  replace X3 := Lib.hid (X3.out.later hb81)
  replace X4 := Lib.hid (X4.out.later hb81)
  clear X13
  have hk83 := Bt hk80 hb81
  clear hk80
  clear hb81
  have cX4 := X4.out.cell; have lX4 := X4.out.lt
  go_wp2_with fail
  clear cX4 lX4
  refine (A0.out _ hk83).mono ?_
  rintro e wc84 ⟨rfl, hb84⟩
  replace X1 := Lib.hid (X1.out.later hb84)
  replace X2 := Lib.hid (X2.out.later hb84)
  clear X3
  replace X4 := Lib.hid (X4.out.later hb84)
  have hk85 := Bt hk83 hb84
  clear hk83
  clear hb84
  go_wp2_with fail
  have hz : Below wc84.heap.size wc84 (wc84.alloc (.cells #[.string ⟨#[]⟩, .string ⟨#[]⟩, .string ⟨#[]⟩, .string ⟨#[]⟩, .string ⟨#[]⟩, .string ⟨#[]⟩] 38)) := belA
  obtain ⟨wq86, EW⟩ : ∃ y, (wc84.alloc (.cells #[.string ⟨#[]⟩, .string ⟨#[]⟩, .string ⟨#[]⟩, .string ⟨#[]⟩, .string ⟨#[]⟩, .string ⟨#[]⟩] 38)) = y := ⟨_, rfl⟩
  rw [EW] at hz ⊢
  replace X1 := Lib.hid (X1.out.later hz)
  replace X2 := Lib.hid (X2.out.later hz)
  replace X4 := Lib.hid (X4.out.later hz)
  have hk87 := Bt hk85 hz
  clear hk85
  clear EW hz
  generalize wc84.heap.size = pq86 at *
  refine (I2.out _ hk87).mono ?_
  rintro e wc88 ⟨hb88, v, rfl, hy, -⟩
  have hv89 := hy rfl
  obtain ⟨rs, hR, -⟩ := id hv89
  obtain ⟨vm89, qm89, rfl, -⟩ := hR
  generalize rs.length = nm89 at hv89
  clear hy
  replace X1 := Lib.hid (X1.out.later hb88)
  replace X2 := Lib.hid (X2.out.later hb88)
  replace X4 := Lib.hid (X4.out.later hb88)
  have hk90 := Bt hk87 hb88
  clear hk87
  have HVI2 := Lib.hid hv89
  clear hv89
  clear hb88
  have cX4 := X4.out.cell; have lX4 := X4.out.lt
  go_wp2_with fail
  clear cX4 lX4
  refine (A1.out _ _ hk90 HVI2.out _ (Below.refl _ _)).mono ?_
  rintro e wc91 ⟨rfl, hb91⟩
  replace X1 := Lib.hid (X1.out.later hb91)
  replace X2 := Lib.hid (X2.out.later hb91)
  replace X4 := Lib.hid (X4.out.later hb91)
  replace HVI2 := Lib.hid (HVI2.out.later hb91)
  have hk92 := Bt hk90 hb91
  clear hk90
  clear hb91
  have cX1 := X1.out.cell; have lX1 := X1.out.lt
  go_wp2_with fail
  clear cX1 lX1
  have hz : Below wc91.heap.size wc91 (wc91.alloc (.cells #[.string ⟨#[]⟩, .string ⟨#[]⟩, .string ⟨#[]⟩, .string ⟨#[]⟩, .string ⟨#[]⟩, .string ⟨#[]⟩] 38)) := belA
  obtain ⟨wq93, EW⟩ : ∃ y, (wc91.alloc (.cells #[.string ⟨#[]⟩, .string ⟨#[]⟩, .string ⟨#[]⟩, .string ⟨#[]⟩, .string ⟨#[]⟩, .string ⟨#[]⟩] 38)) = y := ⟨_, rfl⟩
  rw [EW] at hz ⊢
  replace X1 := Lib.hid (X1.out.later hz)
  replace X2 := Lib.hid (X2.out.later hz)
  clear X4
  replace HVI2 := Lib.hid (HVI2.out.later hz)
  have hk94 := Bt hk92 hz
  clear hk92
  clear EW hz
  generalize wc91.heap.size = pq93 at *
  refine (A2.out _ _ hk94 HVI2.out _ (Below.refl _ _)).mono ?_
  rintro e wc95 ⟨rfl, hb95⟩
  replace X1 := Lib.hid (X1.out.later hb95)
  replace X2 := Lib.hid (X2.out.later hb95)
  replace HVI2 := Lib.hid (HVI2.out.later hb95)
  have hk96 := Bt hk94 hb95
  clear hk94
  clear hb95
  go_wp2_with fail
  have hz : Below wc95.heap.size wc95 (wc95.alloc (.cells #[.string ⟨#[]⟩, .string ⟨#[]⟩, .string ⟨#[]⟩, .string ⟨#[]⟩, .string ⟨#[]⟩, .string ⟨#[]⟩] 38)) := belA
  obtain ⟨wq97, EW⟩ : ∃ y, (wc95.alloc (.cells #[.string ⟨#[]⟩, .string ⟨#[]⟩, .string ⟨#[]⟩, .string ⟨#[]⟩, .string ⟨#[]⟩, .string ⟨#[]⟩] 38)) = y := ⟨_, rfl⟩
  rw [EW] at hz ⊢
  clear X1
  replace X2 := Lib.hid (X2.out.later hz)
  clear HVI2
  have hk98 := Bt hk96 hz
  clear hk96
  clear EW hz
  generalize wc95.heap.size = pq97 at *
  refine (I3.out _ hk98).mono ?_
  rintro e wc99 ⟨hb99, v, rfl, hy, -⟩
  have hv100 := hy rfl
  obtain ⟨rs, hR, -⟩ := id hv100
  obtain ⟨vm100, qm100, rfl, -⟩ := hR
  generalize rs.length = nm100 at hv100
  clear hy
  replace X2 := Lib.hid (X2.out.later hb99)
  have hk101 := Bt hk98 hb99
  clear hk98
  have HVI3 := Lib.hid hv100
  clear hv100
  clear hb99
  go_wp2_with fail
  refine (T4.out _ hk101).mono ?_
  rintro e wc102 ⟨rfl, hb102⟩
  replace X2 := Lib.hid (X2.out.later hb102)
  replace HVI3 := Lib.hid (HVI3.out.later hb102)
  have hk103 := Bt hk101 hb102
  clear hk101
  clear hb102
  go_wp2_with fail
  refine (A3.out _ _ hk103 HVI3.out _ (Below.refl _ _)).mono ?_
  rintro e wc104 ⟨rfl, hb104⟩
  replace X2 := Lib.hid (X2.out.later hb104)
  replace HVI3 := Lib.hid (HVI3.out.later hb104)
  have hk105 := Bt hk103 hb104
  clear hk103
  clear hb104
  have cX2 := X2.out.cell; have lX2 := X2.out.lt
  go_wp2_with fail
  clear cX2 lX2
  have hz : Below wc104.heap.size wc104 (wc104.alloc (.cells #[.string ⟨#[]⟩, .string ⟨#[]⟩, .string ⟨#[]⟩, .string ⟨#[]⟩, .string ⟨#[]⟩, .string ⟨#[]⟩] 38)) := belA
  obtain ⟨wq106, EW⟩ : ∃ y, (wc104.alloc (.cells #[.string ⟨#[]⟩, .string ⟨#[]⟩, .string ⟨#[]⟩, .string ⟨#[]⟩, .string ⟨#[]⟩, .string ⟨#[]⟩] 38)) = y := ⟨_, rfl⟩
  rw [EW] at hz ⊢
  replace X2 := Lib.hid (X2.out.later hz)
  replace HVI3 := Lib.hid (HVI3.out.later hz)
  have hk107 := Bt hk105 hz
  clear hk105
  clear EW hz
  generalize wc104.heap.size = pq106 at *
  refine (A4.out _ _ hk107 HVI3.out _ (Below.refl _ _)).mono ?_
  rintro e wc108 ⟨rfl, hb108⟩
  replace X2 := Lib.hid (X2.out.later hb108)
  replace HVI3 := Lib.hid (HVI3.out.later hb108)
  have hk109 := Bt hk107 hb108
  clear hk107
  clear hb108
  go_wp2_with fail
  have hz : Below wc108.heap.size wc108 (wc108.alloc (.cells #[.string b1, .string b2, .string b3, .string b4, .string b5, .string b6] 38)) := belA
  obtain ⟨wq110, EW⟩ : ∃ y, (wc108.alloc (.cells #[.string b1, .string b2, .string b3, .string b4, .string b5, .string b6] 38)) = y := ⟨_, rfl⟩
  have X18 : Hid (Box wq110 (wc108.heap.size) #[.string b1, .string b2, .string b3, .string b4, .string b5, .string b6] 38) := Lib.hid (by rw [← EW]; exact Box.new _ _ _)
  rw [EW] at hz ⊢
  replace X2 := Lib.hid (X2.out.later hz)
  clear HVI3
  have hk111 := Bt hk109 hz
  clear hk109
  clear EW hz
  generalize wc108.heap.size = pq110 at *
  refine (C2.out _ hk111).mono ?_
  rintro e wc112 ⟨hb112, v, rfl, hy, -⟩
  have hv113 := hy rfl
  obtain ⟨rs, hR, -⟩ := id hv113
  obtain ⟨vm113, qm113, rfl, -⟩ := hR
  generalize rs.length = nm113 at hv113
  clear hy
  replace X2 := Lib.hid (X2.out.later hb112)
  replace X18 := Lib.hid (X18.out.later hb112)
  have hk114 := Bt hk111 hb112
  clear hk111
  have HVC2 := Lib.hid hv113
  clear hv113
  clear hb112
  have cX18 := X18.out.cell; have lX18 := X18.out.lt
  have cX2 := X2.out.cell; have lX2 := X2.out.lt
  go_wp2_with fail
  clear cX18 lX18 cX2 lX2
  refine (T5.out _ hk114).mono ?_
  rintro e wc115 ⟨rfl, hb115⟩
  replace X2 := Lib.hid (X2.out.later hb115)
  replace X18 := Lib.hid (X18.out.later hb115)
  replace HVC2 := Lib.hid (HVC2.out.later hb115)
  have hk116 := Bt hk114 hb115
  clear hk114
  clear hb115
  go_wp2_with fail
  refine (ret_row _ _ ⟨⟨e1, e2⟩, ⟨e3, e4⟩, ⟨e5, e6⟩⟩ _ HVC2.out FC.out.1 FC.out.2 _ (Below.refl _ _)).mono ?_
  rintro e wc117 ⟨rfl, hb117⟩
  replace X2 := Lib.hid (X2.out.later hb117)
  replace X18 := Lib.hid (X18.out.later hb117)
  replace HVC2 := Lib.hid (HVC2.out.later hb117)
  have hk118 := Bt hk116 hb117
  clear hk116
  clear hb117
  go_wp2_with fail
  go_ret
  exact ⟨rfl, hk118⟩
end Go.Proofs.verdigrislaw25
namespace Go.Proofs.YtddblpggomphpaaGreatDoor
open Go Go.ChangeShapes Go.WideShapes Go.ChangeAt Go.RowKit Go.Proofs

theorem own : ownKnob Tryz.prog.godebug = none := by kernel_rfl
/-- The door's own heap meets the condition. -/
theorem door_met (os : Os) (args : Array Value) : laidMetH Tryz.prog Rows.adaptKnownRow.laid ((World.doorLaid Tryz.prog 4000 os).forCall (fun _ _ => 0) ⟨#[], args, []⟩).memory := by
  rw [MakeChecks.laidMetH_plain _ _ _ (by kernel_rfl)]
  exact laidMet_of_run' 8 (by kernel_rfl) (by kernel_rfl)

set_option maxRecDepth 100000 in
theorem adaptKnown_lifted (os : Os) (started : os.Started) (H : Type) (enc : TypeId × Value → H) :
    ReturnsInHanded {} Tryz.checked os 7 .any (fun w args => (Rows.adaptKnownSpec.pre enc Tryz.prog Tryz.f7 [] false w args ∧ laidMetH Tryz.prog Rows.adaptKnownRow.laid w) ∧ sizedMet enc Tryz.prog Tryz.f7 (OpenSpec.ofChange Rows.adaptKnownSpec) false w args)
      (Rows.adaptKnownSpec.post enc Tryz.prog Tryz.f7 false true false false) := by
  refine returnsInHanded_of_change_and (C := Tryz.checked) (X := fun w _ => laidMetH Tryz.prog Rows.adaptKnownRow.laid w) (fun _ _ _ hh h => h.of_heap hh) own started (by kernel_rfl) Tryz.func7
    (ChangeSpec.witness_shaped (enc := enc) (C := Tryz.checked) (os := os) (X := fun w _ => laidMetH Tryz.prog Rows.adaptKnownRow.laid w) false (World.doorLaid Tryz.prog 4000 os) #[] 8 rfl (World.shaped_of_RefB (by kernel_rfl) (by kernel_rfl)) (by kernel_rfl) (by kernel_rfl) (by kernel_rfl) (door_met os _)) ?_
  intro W base args ds gs before hval0 hW _ _ hL _
  have hW' := hW
  obtain ⟨p, q, hA0, hV, rfl, hfz, hnd⟩ := hW
  have hA : DataW.TrodAll enc Tryz.prog W 0 (fun _ => true) true Tryz.f7.params.toList args.toList ds p := hA0
  rw [Tryz.params7] at hA
  obtain ⟨rfl, rfl, rfl⟩ := trodAll_none hA
  obtain ⟨rfl, rfl⟩ := trodVars_none hV
  obtain ⟨hp, hc⟩ := of_laid hL
  refine (verdigrislaw25.AdaptKnown_ok W hp hc).mono fun e W' ⟨he, hb⟩ => ?_
  subst he
  refine ⟨_, rfl, [], [], _, [], [], [], hW', ?_, ?_, ?_, hb.frame _, fun h => by cases h⟩
  · exact trodAll_mk1 (shut_bool Tryz.underlying4 true)
  · exact rfl
  · rfl

theorem adaptKnown_holds : Rows.AdaptKnownSaid :=
  OpenClaim.holds_of_wide 7 Tryz.f7 rfl rfl rfl rfl rfl rfl rfl ⟨rfl, rfl, rfl, rfl, rfl⟩ rfl rfl rfl rfl rfl (by kernel_rfl) Tryz.func7 (by kernel_rfl)
    (of_decide_eq_true (by kernel_rfl)) (by unfold Func.isWrapper; first | (rw [if_pos (by decide +kernel)]; kernel_rfl) | (rw [if_neg (by decide +kernel)]; exact ⟨rfl, rfl⟩))
    (fun os started H enc _ => adaptKnown_lifted os started H enc)
theorem adaptKnown_card : Rows.AdaptKnownCardSaid :=
  Claim7.holds_tied_plain_at .later [] [.data, .data, .data, .data] true (true, "50e1582605f5adda48684425b8549e6e38f1d8943c6eb8551d2394c5aed60ef4") true
    adaptKnown_holds (fun _ h => by cases h) (by kernel_rfl) (fun _ h => by cases h) adaptKnown_row_tie rfl ⟨rfl, rfl⟩ (by kernel_rfl) rfl
    (fun f fn hf hfn => by
      obtain rfl : f = 7 := Option.some.inj ((show Tryz.prog.funcNamed "verdigris/verdigrislaw25.AdaptKnown" = some 7 by kernel_rfl).symm.trans hf) |>.symm
      obtain rfl : fn = Tryz.f7 := (Option.some.inj (Tryz.func7.symm.trans hfn)).symm
      exact ⟨by kernel_rfl, fun j t ht => by
        rw [Tryz.params7] at ht
        simp at ht⟩)
    (by kernel_rfl)
end Go.Proofs.YtddblpggomphpaaGreatDoor
