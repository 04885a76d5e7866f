/- Lemmas for the proof. No condition. -/
import Derived.Test.YtddblpggomphpaaGreatDoorZB02
import Derived.Test.YtddblpggomphpaaGreatDoorZB09
import Derived.Test.YtddblpggomphpaaGreatDoorZB11
import Derived.Test.YtddblpggomphpaaGreatDoorZB13
set_option linter.unusedVariables false
set_option linter.unusedSimpArgs false
namespace Go.Proofs.verdigrislaw25
open Go Go.RowKit Go.SW Go.Num Go.Mem Go.Proofs Go.Dec Go.Fra
/-- The fraction n / d of small numbers. -/
def q2 (n d : Int) : Rat := (n : Rat) / (d : Rat)
def sm (n d : Int) : Bool := decide (-1000000 ≤ n) && decide (n ≤ 1000000) && decide (1 ≤ d) && decide (d ≤ 1000000) && okq (q2 n d)
set_option maxRecDepth 10000 in
set_option maxHeartbeats 1000000 in
theorem of_ok (n d : Int) (h : sm n d = true) (w : World) (ht : Bld.Pow w) :
  Calls Tryz.prog 22 #[.int .i64 n, .int .i64 d] w (fun e w' => e = .returned (Fr.of (q2 n d)).v ∧ Below w.heap.size w w') := by
 have h' := h
 unfold sm at h'
 simp only [Bool.and_eq_true, decide_eq_true_eq] at h'
 obtain ⟨⟨⟨⟨h1, h2⟩, h3⟩, h4⟩, h5⟩ := h'
 have HO := fun w' hb => frac.Of_ok n d (by omega) (by omega) (by omega) (by omega) w' (ht.later hb)
 have e1 : Fr.res (ofF n d) = .tuple #[(Fr.of (q2 n d)).v, .int .i64 0] := by
  unfold ofF
  rw [if_neg (by omega)]
  show Fr.res (Fra.wr (q2 n d)) = _
  unfold Fra.wr
  rw [if_pos h5]
  rfl
 rw [e1] at HO
 have HOF := Lib.hid HO
 obtain ⟨⟨s, t⟩, E⟩ : ∃ y : Fr, Hid (Fr.of (q2 n d) = y) := ⟨_, Lib.hid rfl⟩
 rw [E.out] at HOF ⊢
 unfold Fr.v at HOF ⊢
 have h0 : Below w.heap.size w (w.alloc (.cells #[.string ⟨#[]⟩, .string ⟨#[]⟩] 36)) := belA
 have hx := Box.new w #[.string ⟨#[]⟩, .string ⟨#[]⟩] 36
 clear HO h h1 h2 h3 h4 h5 e1 ht E
 go_enter Tryz.func22, Tryz.ntmps22
 go_wp2_with fail
 refine (HOF.out _ h0).mono ?_
 rintro e w1 ⟨rfl, hb1⟩
 have hr := hx.later hb1
 have cr := hr.cell
 have fr := hr.free
 have lr := hr.lt
 go_wp2_with fail
 refine ret_c rfl rfl boxA Tryz.underlying36 rfl (by kernel_rfl) ?_
 exact ⟨rfl, belA⟩
/-- Three small fractions over one denominator. -/
def tq (x y z d : Int) : light.Tri := ⟨Fr.of (q2 x d), Fr.of (q2 y d), Fr.of (q2 z d)⟩
set_option maxRecDepth 10000 in
set_option maxHeartbeats 1000000 in
theorem tri_ok (x y z d : Int) (hx : sm x d = true) (hy : sm y d = true) (hz : sm z d = true) (w : World) (ht : Bld.Pow w) :
  Calls Tryz.prog 26 #[.int .i64 x, .int .i64 y, .int .i64 z, .int .i64 d] w (fun e w' => e = .returned (tq x y z d).v ∧ Below w.heap.size w w') := by
 have H1 := Lib.hid (fun w' (hb : Below w.heap.size w w') => of_ok x d hx w' (ht.later hb))
 have H2 := Lib.hid (fun w' (hb : Below w.heap.size w w') => of_ok y d hy w' (ht.later hb))
 have H3 := Lib.hid (fun w' (hb : Below w.heap.size w w') => of_ok z d hz w' (ht.later hb))
 unfold tq
 obtain ⟨⟨s1, s2⟩, E1⟩ : ∃ y : Fr, Hid (Fr.of (q2 x d) = y) := ⟨_, Lib.hid rfl⟩
 obtain ⟨⟨s3, s4⟩, E2⟩ : ∃ u : Fr, Hid (Fr.of (q2 y d) = u) := ⟨_, Lib.hid rfl⟩
 obtain ⟨⟨s5, s6⟩, E3⟩ : ∃ y : Fr, Hid (Fr.of (q2 z d) = y) := ⟨_, Lib.hid rfl⟩
 rw [E1.out, E2.out, E3.out]
 rw [E1.out] at H1
 rw [E2.out] at H2
 rw [E3.out] at H3
 unfold Fr.v at H1 H2 H3
 unfold light.Tri.v light.Tri.cells
 have h0 : Below w.heap.size w (w.alloc (.cells #[.string ⟨#[]⟩, .string ⟨#[]⟩, .string ⟨#[]⟩, .string ⟨#[]⟩, .string ⟨#[]⟩, .string ⟨#[]⟩] 38)) := belA
 have hb := Box.new w #[.string ⟨#[]⟩, .string ⟨#[]⟩, .string ⟨#[]⟩, .string ⟨#[]⟩, .string ⟨#[]⟩, .string ⟨#[]⟩] 38
 clear hx hy hz ht E1 E2 E3
 go_enter Tryz.func26, Tryz.ntmps26
 go_wp2_with fail
 refine (H1.out _ h0).mono ?_
 rintro e w1 ⟨rfl, hb1⟩
 have h1 := Bt h0 hb1
 go_wp2_with fail
 refine (H2.out _ h1).mono ?_
 rintro e w2 ⟨rfl, hb2⟩
 have h2 := Bt h1 hb2
 go_wp2_with fail
 refine (H3.out _ h2).mono ?_
 rintro e w3 ⟨rfl, hb3⟩
 have h3 := Bt h2 hb3
 have hr := ((hb.later hb1).later hb2).later hb3
 have cr := hr.cell
 have fr := hr.free
 have lr := hr.lt
 clear h0 h1 h2 hb1 hb2 hb3 hb H1 H2 H3
 go_wp2_with fail
 refine ret_c rfl rfl ((((((hr.set 0 _).set 1 _).set 2 _).set 3 _).set 4 _).set 5 _) Tryz.underlying38 rfl (by kernel_rfl) ?_
 exact ⟨rfl, (((((h3.setCell (Nat.le_refl _) _).setCell (Nat.le_refl _) _).setCell (Nat.le_refl _) _).setCell (Nat.le_refl _) _).setCell (Nat.le_refl _) _).setCell (Nat.le_refl _) _⟩
end Go.Proofs.verdigrislaw25
namespace Go.Proofs.verdigrislaw25
open Go Go.RowKit Go.SW Go.Num Go.Mem Go.Proofs Go.Dec Go.Fra
/-- The first row of a matrix with three rows. -/
theorem MatV.row0 {w : World} {v : Value} {m : List (List Fr)} {x y z : Fr} (h : MatV w v m) (h3 : m.length = 3) (h0 : m.headD [] = [x, y, z]) :
  ∃ b off cap b2 off2 cap2, v = .slice (some ⟨b, off, none⟩) 3 cap ∧ b < w.heap.size ∧ w.cell? ⟨b, off, none⟩ = some (.slice (some ⟨b2, off2, none⟩) 3 cap2) ∧ b2 < w.heap.size ∧
   w.cell? ⟨b2, off2, none⟩ = some (.string x.n) ∧ w.cell? ⟨b2, off2 + 1, none⟩ = some (.string x.d) ∧ w.cell? ⟨b2, off2 + 2, none⟩ = some (.string y.n) ∧ w.cell? ⟨b2, off2 + 3, none⟩ = some (.string y.d) ∧
   w.cell? ⟨b2, off2 + 4, none⟩ = some (.string z.n) ∧ w.cell? ⟨b2, off2 + 5, none⟩ = some (.string z.d) := by
 obtain ⟨rs, hR, hl, hF⟩ := h
 rw [h3] at hl
 match rs, hl with
 | [r0, r1, r2], _ =>
  have hf := hF 0 (by simp) (by omega)
  have e0 : m[0] = [x, y, z] := by
   match m, h3, h0 with
   | [a, b, c], _, h0 => exact h0
  rw [e0] at hf
  obtain ⟨a2, cap2, e2, -⟩ := id hf
  simp only [List.getElem_cons_zero] at e2 hf
  subst e2
  obtain ⟨-, b2, off2, rfl, lb2, hc⟩ := adapt.Frs.cells hf (by simp)
  have k0 := hc 0 (by simp)
  have k1 := hc 1 (by simp)
  have k2 := hc 2 (by simp)
  rcases hR.cases with ⟨-, h1⟩ | ⟨b, off, cap, arr, rfl, k3, -, k4, k6⟩
  ·cases h1
  ·refine ⟨b, off, cap, b2, off2, cap2, rfl, k4.lt, ?_, lb2, k0.1, k0.2, k1.1, k1.2, k2.1, k2.2⟩
   have := k6 0 (by simp)
   rw [k4.cell]
   simpa using this
set_option maxRecDepth 100000 in
set_option maxHeartbeats 2000000 in
theorem row_ok (va : Value) (m : List (List Fr)) (t : light.Tri) (w : World) (h : MatV w va m) (h3 : m.length = 3) (h0 : m.headD [] = t.list) :
  Calls Tryz.prog 31 #[va, t.v] w (fun e w' => e = .returned (.bool true) ∧ Below w.heap.size w w') := by
 obtain ⟨⟨a1, a2⟩, ⟨a3, a4⟩, ⟨a5, a6⟩⟩ := t
 obtain ⟨b, off, cap, b2, off2, cap2, rfl, lb, hc, lb2, k1, k2, k3, k4, k5, k6⟩ := MatV.row0 h h3 h0
 unfold light.Tri.v light.Tri.cells
 have hb0 : Below w.heap.size w (w.alloc (.cells #[.string a1, .string a2, .string a3, .string a4, .string a5, .string a6] 38)) := belA
 have hx := Box.new w #[.string a1, .string a2, .string a3, .string a4, .string a5, .string a6] 38
 obtain ⟨w0, Ew0⟩ : ∃ y, w.alloc (.cells #[.string a1, .string a2, .string a3, .string a4, .string a5, .string a6] 38) = y := ⟨_, rfl⟩
 rw [Ew0] at hb0 hx
 replace hc := (hb0.cell (p := ⟨b, off, none⟩) lb).trans hc
 replace k1 := (hb0.cell (p := ⟨b2, off2, none⟩) lb2).trans k1
 replace k2 := (hb0.cell (p := ⟨b2, off2 + 1, none⟩) lb2).trans k2
 replace k3 := (hb0.cell (p := ⟨b2, off2 + 2, none⟩) lb2).trans k3
 replace k4 := (hb0.cell (p := ⟨b2, off2 + 3, none⟩) lb2).trans k4
 replace k5 := (hb0.cell (p := ⟨b2, off2 + 4, none⟩) lb2).trans k5
 replace k6 := (hb0.cell (p := ⟨b2, off2 + 5, none⟩) lb2).trans k6
 have cx := hx.cell
 have lx := hx.lt
 replace lb : b < w0.heap.size := Nat.lt_of_lt_of_le lb hb0.size
 replace lb2 : b2 < w0.heap.size := Nat.lt_of_lt_of_le lb2 hb0.size
 clear h h3 h0
 go_enter Tryz.func31, Tryz.ntmps31
 go_wp2_with fail
 try rw [Ew0]
 refine wp_region_walk [(.pure, 0), (.pure, 1), (.pure, 2), (.pure, 3), (.pure, 4), (.pure, 5), (.read, 6), (.pure, 7), (.pure, 8), (.pure, 9), (.pure, 10), (.pure, 11), (.pure, 12), (.read, 13), (.pure, 14), (.read, 15), (.pure, 16), (.read, 17), (.pure, 18), (.pure, 19), (.pure, 20), (.pure, 21), (.pure, 22), (.read, 23), (.pure, 24), (.read, 25), (.pure, 26), (.read, 27), (.pure, 28), (.pure, 29), (.pure, 30), (.pure, 31), (.pure, 32), (.read, 33), (.pure, 34), (.read, 35), (.pure, 36), (.read, 37), (.pure, 38), (.pure, 39), (.fin, 40)] (by kernel_rfl) (by kernel_rfl) (allocRuns_of (by kernel_rfl)) (fun _ _ _ _ hd h => And.intro (hd.trans (And.left h)) (And.right h)) ?_
 repeat (first | (refine walk_pure0 rfl rfl (fun J hJ => ?_); go_simp; refine hJ _ ?_; clear hJ J) | (refine walk_load rfl rfl rfl rfl (fun J hJ => ?_); go_simp; refine hJ _ ?_; clear hJ J; try go_simp) | (refine walk_pureG rfl rfl (fun J hJ => ?_); go_simp; refine hJ _ ?_; clear hJ J) | (refine walk_loadG rfl rfl rfl rfl (fun J hJ => ?_); go_simp; refine hJ _ ?_; clear hJ J; try go_simp))
 refine walk_fin [_] rfl (fun w5 hb5 => ?_)
 have h5 : Below w.heap.size w w5 := Bt hb0 belA
 go_wp2_with fail
 go_ret
 exact ⟨rfl, h5⟩
end Go.Proofs.verdigrislaw25
namespace Go.Proofs.verdigrislaw25
open Go Go.RowKit Go.SW Go.Num Go.Mem Go.Proofs Go.Dec Go.Fra
/-- A call that returns v in every later world. -/
def Ret (w : World) (f : FuncId) (args : Array Value) (v : Value) : Prop := ∀ W, Below w.heap.size w W → Calls Tryz.prog f args W (fun e W' => e = .returned v ∧ Below W.heap.size W W')
/-- A call that returns a matrix in every later world. -/
def RetM (w : World) (f : FuncId) (args : Array Value) (er : Int) (m : List (List Fr)) : Prop := ∀ W, Below w.heap.size w W → Calls Tryz.prog f args W (MatPost W er m)
theorem ret_of (n d : Int) (h : sm n d = true) (w : World) (ht : Bld.Pow w) : Ret w 22 #[.int .i64 n, .int .i64 d] (Fr.of (q2 n d)).v := fun W hW => of_ok n d h W (ht.later hW)
theorem ret_tri (x y z d : Int) (h : (sm x d && sm y d && sm z d) = true) (w : World) (ht : Bld.Pow w) : Ret w 26 #[.int .i64 x, .int .i64 y, .int .i64 z, .int .i64 d] (tq x y z d).v := fun W hW => by
 simp only [Bool.and_eq_true] at h
 exact tri_ok x y z d h.1.1 h.1.2 h.2 W (ht.later hW)
theorem ret_gains (k : Int) (a b : light.Tri) (d : Fr) (er : Int) (g : light.Tri) (he : adapt.gainsE k a b d = er) (hg : (if er = 0 then adapt.tri3 (adapt.gainsQ k a b d) else adapt.noTri) = g) (w : World) (ht : Bld.Pow w) (hc : adapt.Cones w) :
  Ret w 27 #[.int .i64 k, a.v, b.v, d.v] (.tuple #[g.v, .int .i64 er]) := fun W hW => (adapt.Gains_ok k a b d W (ht.later hW) (hc.later hW)).mono (by
 subst he
 subst hg
 exact fun _ _ h => ⟨h.2, h.1⟩)
theorem ret_matrix (k : Int) (a b : light.Tri) (d : Fr) (er : Int) (he : adapt.matE k a b d = er) (w : World) (ht : Bld.Pow w) (hc : adapt.Cones w) :
  RetM w 13 #[.int .i64 k, a.v, b.v, d.v] er (adapt.matR k a b d).fr := fun W hW => he ▸ adapt.Matrix_ok k a b d W (ht.later hW) (hc.later hW)
theorem ret_cone (k : Int) (er : Int) (he : adapt.coneE k = er) (w : World) (ht : Bld.Pow w) (hc : adapt.Cones w) :
  RetM w 30 #[.int .i64 k] er (adapt.coneR (k - 1).toNat).fr := fun W hW => he ▸ adapt.Cone_ok k W (ht.later hW) (hc.later hW)
theorem ret_adapt (va : Value) (m : List (List Fr)) (t : light.Tri) (er : Int) (g : light.Tri) (he : adapt.adaptE m t = er) (hg : (if er = 0 then adapt.adaptT m t else adapt.noTri) = g) (w : World) (hm : MatV w va m) (ht : Bld.Pow w) :
  Ret w 20 #[va, t.v] (.tuple #[g.v, .int .i64 er]) := fun W hW => (adapt.Adapt_ok va m t W (hm.later hW) (ht.later hW)).mono (by
 subst he
 subst hg
 exact fun _ _ h => ⟨h.2, h.1⟩)
theorem ret_row (va : Value) (m : List (List Fr)) (t : light.Tri) (w : World) (hm : MatV w va m) (h3 : m.length = 3) (h0 : m.headD [] = t.list) : Ret w 31 #[va, t.v] (.bool true) := fun W hW => row_ok va m t W (hm.later hW) h3 h0
theorem Ret.later {w w' : World} {f : FuncId} {args : Array Value} {v : Value} (h : Ret w f args v) (hb : Below w.heap.size w w') : Ret w' f args v := fun W hW => h W (Bt hb hW)
theorem RetM.later {w w' : World} {f : FuncId} {args : Array Value} {er : Int} {m : List (List Fr)} (h : RetM w f args er m) (hb : Below w.heap.size w w') : RetM w' f args er m := fun W hW => h W (Bt hb hW)
theorem tri3_tq {f : Nat → Rat} {x y z d : Int} (h : (decide (f 0 = q2 x d) && decide (f 1 = q2 y d) && decide (f 2 = q2 z d)) = true) : adapt.tri3 f = tq x y z d := by
 simp only [Bool.and_eq_true, decide_eq_true_eq] at h
 unfold adapt.tri3 tq
 rw [h.1.1, h.1.2, h.2]
theorem head_tq {m : matrix.RM} {x y z d : Int} (h : m.headD [] = [q2 x d, q2 y d, q2 z d]) : m.fr.headD [] = (tq x y z d).list := by
 cases m with
 | nil => cases h
 | cons r t =>
  have h' : r = [q2 x d, q2 y d, q2 z d] := h
  show r.map Fr.of = _
  rw [h']
  rfl
/-- A matrix of three rows with this first row. -/
def Fst (m : List (List Fr)) (t : light.Tri) : Prop := m.length = 3 ∧ m.headD [] = t.list
set_option maxRecDepth 100000 in
set_option maxHeartbeats 4000000 in
theorem works_ok (w : World) (ht : Bld.Pow w) (hc : adapt.Cones w) : Calls Tryz.prog 9 #[] w (fun e w' => e = .returned (.bool true) ∧ Below w.heap.size w w') := by
 have T1 := Lib.hid (ret_tri 1 1 1 1 (by decide +kernel) w ht)
 have T2 := Lib.hid (ret_tri 4 2 1 2 (by decide +kernel) w ht)
 have T3 := Lib.hid (ret_tri 1 0 1 1 (by decide +kernel) w ht)
 have T4 := Lib.hid (ret_tri 1 0 0 1 (by decide +kernel) w ht)
 have T5 := Lib.hid (ret_tri 8951 2664 (-1614) 10000 (by decide +kernel) w ht)
 have T6 := Lib.hid (ret_tri 6 4 3 4 (by decide +kernel) w ht)
 have T7 := Lib.hid (ret_tri 2 0 0 1 (by decide +kernel) w ht)
 have O1 := Lib.hid (ret_of 1 1 (by decide +kernel) w ht)
 have O2 := Lib.hid (ret_of 1 2 (by decide +kernel) w ht)
 have O3 := Lib.hid (ret_of 2 1 (by decide +kernel) w ht)
 have C1 := Lib.hid (ret_cone 1 0 rfl w ht hc)
 have C3 := Lib.hid (ret_cone 3 0 rfl w ht hc)
 have C5 := Lib.hid (ret_cone 5 2 rfl w ht hc)
 have G1 := Lib.hid (ret_gains 1 (tq 1 1 1 1) (tq 4 2 1 2) (Fr.of (q2 1 1)) 0 (tq 4 2 1 2) (by decide +kernel) (by rw [if_pos rfl]; exact tri3_tq (by decide +kernel)) w ht hc)
 have G2 := Lib.hid (ret_gains 1 (tq 1 1 1 1) (tq 4 2 1 2) (Fr.of (q2 1 2)) 0 (tq 6 4 3 4) (by decide +kernel) (by rw [if_pos rfl]; exact tri3_tq (by decide +kernel)) w ht hc)
 have G3 := Lib.hid (ret_gains 1 (tq 1 1 1 1) (tq 4 2 1 2) (Fr.of (q2 2 1)) 2 adapt.noTri (by decide +kernel) (if_neg (by decide)) w ht hc)
 have G4 := Lib.hid (ret_gains 1 (tq 1 0 1 1) (tq 4 2 1 2) (Fr.of (q2 1 1)) 2 adapt.noTri (by decide +kernel) (if_neg (by decide)) w ht hc)
 have M1 := Lib.hid (ret_matrix 1 (tq 1 1 1 1) (tq 4 2 1 2) (Fr.of (q2 1 1)) 0 (by decide +kernel) w ht hc)
 have F1 : Hid (Fst (adapt.coneR ((1 : Int) - 1).toNat).fr (tq 1 0 0 1)) := Lib.hid ⟨rfl, head_tq (by decide +kernel)⟩
 have F3 : Hid (Fst (adapt.coneR ((3 : Int) - 1).toNat).fr (tq 8951 2664 (-1614) 10000)) := Lib.hid ⟨rfl, head_tq (by decide +kernel)⟩
 have FM : Hid (Fst (adapt.matR 1 (tq 1 1 1 1) (tq 4 2 1 2) (Fr.of (q2 1 1))).fr (tq 2 0 0 1)) := Lib.hid ⟨rfl, head_tq (by decide +kernel)⟩
 have A1 : Hid (∀ va W, Below w.heap.size w W → MatV W va (adapt.matR 1 (tq 1 1 1 1) (tq 4 2 1 2) (Fr.of (q2 1 1))).fr → Ret W 20 #[va, (tq 1 1 1 1).v] (.tuple #[(tq 4 2 1 2).v, .int .i64 0])) := Lib.hid fun va W hW hm =>
  ret_adapt va _ (tq 1 1 1 1) 0 (tq 4 2 1 2) (by decide +kernel) (by rw [if_pos rfl]; exact tri3_tq (by decide +kernel)) W hm (ht.later hW)
 obtain ⟨m1, E⟩ : ∃ y, (adapt.coneR ((1 : Int) - 1).toNat).fr = y := ⟨_, rfl⟩
 rw [E] at C1 F1
 clear E
 obtain ⟨m3, E⟩ : ∃ y, (adapt.coneR ((3 : Int) - 1).toNat).fr = y := ⟨_, rfl⟩
 rw [E] at C3 F3
 clear E
 obtain ⟨m5, E⟩ : ∃ y, (adapt.coneR ((5 : Int) - 1).toNat).fr = y := ⟨_, rfl⟩
 rw [E] at C5
 clear E
 obtain ⟨mm, E⟩ : ∃ y, (adapt.matR 1 (tq 1 1 1 1) (tq 4 2 1 2) (Fr.of (q2 1 1))).fr = y := ⟨_, rfl⟩
 rw [E] at M1 FM A1
 clear E
 obtain ⟨⟨⟨k1, k2⟩, ⟨k3, k4⟩, ⟨k5, k6⟩⟩, E⟩ : ∃ y : light.Tri, adapt.noTri = y := ⟨_, rfl⟩
 simp only [E] at G3 G4
 clear E
 obtain ⟨⟨⟨a1, a2⟩, ⟨a3, a4⟩, ⟨a5, a6⟩⟩, E⟩ : ∃ y : light.Tri, tq 1 1 1 1 = y := ⟨_, rfl⟩
 simp only [E] at T1 G1 G2 G3 M1 A1
 clear E
 obtain ⟨⟨⟨b1, b2⟩, ⟨b3, b4⟩, ⟨b5, b6⟩⟩, E⟩ : ∃ y : light.Tri, tq 4 2 1 2 = y := ⟨_, rfl⟩
 simp only [E] at T2 G1 G2 G3 G4 M1 A1
 clear E
 obtain ⟨⟨⟨c1, c2⟩, ⟨c3, c4⟩, ⟨c5, c6⟩⟩, E⟩ : ∃ y : light.Tri, tq 1 0 1 1 = y := ⟨_, rfl⟩
 simp only [E] at T3 G4
 clear E
 obtain ⟨⟨⟨d1, d2⟩, ⟨d3, d4⟩, ⟨d5, d6⟩⟩, E⟩ : ∃ y : light.Tri, tq 1 0 0 1 = y := ⟨_, rfl⟩
 simp only [E] at T4 F1
 clear E
 obtain ⟨⟨⟨e1, e2⟩, ⟨e3, e4⟩, ⟨e5, e6⟩⟩, E⟩ : ∃ y : light.Tri, tq 8951 2664 (-1614) 10000 = y := ⟨_, rfl⟩
 simp only [E] at T5 F3
 clear E
 obtain ⟨⟨⟨f1, f2⟩, ⟨f3, f4⟩, ⟨f5, f6⟩⟩, E⟩ : ∃ y : light.Tri, tq 6 4 3 4 = y := ⟨_, rfl⟩
 simp only [E] at T6 G2
 clear E
 obtain ⟨⟨⟨g1, g2⟩, ⟨g3, g4⟩, ⟨g5, g6⟩⟩, E⟩ : ∃ y : light.Tri, tq 2 0 0 1 = y := ⟨_, rfl⟩
 simp only [E] at T7 FM
 clear E
 obtain ⟨⟨h1, h2⟩, E⟩ : ∃ y : Fr, Fr.of (q2 1 1) = y := ⟨_, rfl⟩
 rw [E] at O1 G1 G4 M1
 clear E
 obtain ⟨⟨i1, i2⟩, E⟩ : ∃ y : Fr, Fr.of (q2 1 2) = y := ⟨_, rfl⟩
 rw [E] at O2 G2
 clear E
 obtain ⟨⟨j1, j2⟩, E⟩ : ∃ y : Fr, Fr.of (q2 2 1) = y := ⟨_, rfl⟩
 rw [E] at O3 G3
 clear E
 unfold light.Tri.v light.Tri.cells Fr.v at *
 dsimp only at T1 T2 T3 T4 T5 T6 T7 G1 G2 G3 G4 M1 A1 O1 O2 O3
 clear ht hc
 go_enter Tryz.func9, Tryz.ntmps9
 have HEQ := @run_eqTri_same
 go_wp2_with fail
 refine (T1.out _ (Below.refl _ _)).mono ?_
 rintro e wc1 ⟨rfl, hb1⟩
 have hk2 := Bt (Below.refl _ _) hb1
 clear hb1
 go_wp2_with fail
 refine (T2.out _ hk2).mono ?_
 rintro e wc3 ⟨rfl, hb3⟩
 have hk4 := Bt hk2 hb3
 clear hk2
 clear hb3
 go_wp2_with fail
 have hz : Below wc3.heap.size wc3 ((wc3.alloc (.cells #[.string a1, .string a2, .string a3, .string a4, .string a5, .string a6] 38)).alloc (.cells #[.string b1, .string b2, .string b3, .string b4, .string b5, .string b6] 38)) := belA
 obtain ⟨wq5, EW⟩ : ∃ y, ((wc3.alloc (.cells #[.string a1, .string a2, .string a3, .string a4, .string a5, .string a6] 38)).alloc (.cells #[.string b1, .string b2, .string b3, .string b4, .string b5, .string b6] 38)) = y := ⟨_, rfl⟩
 have X1 : Hid (Box wq5 (wc3.heap.size) #[.string a1, .string a2, .string a3, .string a4, .string a5, .string a6] 38) := Lib.hid (by rw [← EW]; exact Box.alloc (Box.new _ _ _) _)
 have X2 : Hid (Box wq5 (wc3.heap.size + 1) #[.string b1, .string b2, .string b3, .string b4, .string b5, .string b6] 38) := Lib.hid (by rw [← EW]; exact Box.at1 _ _ _ _)
 rw [EW] at hz ⊢
 have hk6 := Bt hk4 hz
 clear hk4
 clear EW hz
 generalize wc3.heap.size = pq5 at *
 refine (C1.out _ hk6).mono ?_
 rintro e wc7 ⟨hb7, v, rfl, hy, -⟩
 have hv8 := hy rfl
 obtain ⟨rs, hR, -⟩ := id hv8
 obtain ⟨vm8, qm8, rfl, -⟩ := hR
 generalize rs.length = nm8 at hv8
 clear hy
 replace X1 := Lib.hid (X1.out.later hb7)
 replace X2 := Lib.hid (X2.out.later hb7)
 have hk9 := Bt hk6 hb7
 clear hk6
 have HVC1 := Lib.hid hv8
 clear hv8
 clear hb7
 go_wp2_with fail
 refine (C3.out _ hk9).mono ?_
 rintro e wc10 ⟨hb10, v, rfl, hy, -⟩
 have hv11 := hy rfl
 obtain ⟨rs, hR, -⟩ := id hv11
 obtain ⟨vm11, qm11, rfl, -⟩ := hR
 generalize rs.length = nm11 at hv11
 clear hy
 replace X1 := Lib.hid (X1.out.later hb10)
 replace X2 := Lib.hid (X2.out.later hb10)
 replace HVC1 := Lib.hid (HVC1.out.later hb10)
 have hk12 := Bt hk9 hb10
 clear hk9
 have HVC3 := Lib.hid hv11
 clear hv11
 clear hb10
 go_wp2_with fail
 refine (C5.out _ hk12).mono ?_
 rintro e wc13 ⟨hb13, v, rfl, -, hy⟩
 have hz := hy (by decide)
 subst hz
 clear hy
 replace X1 := Lib.hid (X1.out.later hb13)
 replace X2 := Lib.hid (X2.out.later hb13)
 replace HVC1 := Lib.hid (HVC1.out.later hb13)
 replace HVC3 := Lib.hid (HVC3.out.later hb13)
 have hk15 := Bt hk12 hb13
 clear hk12
 clear hb13
 go_wp2_with fail
 have cX1 := X1.out.cell; have lX1 := X1.out.lt
 have cX2 := X2.out.cell; have lX2 := X2.out.lt
 refine wp_region_walk [(.read, 0), (.read, 1), (.ext, 2), (.ext, 3), (.pure, 4), (.pure, 5), (.pure, 6), (.alloc #[.string ⟨#[]⟩, .string ⟨#[]⟩, .string ⟨#[]⟩, .string ⟨#[]⟩, .string ⟨#[]⟩, .string ⟨#[]⟩] 37, 7), (.fin, 8), (.fin, 9)] (by kernel_rfl) (by kernel_rfl) (allocRuns_of (by kernel_rfl)) (fun _ _ _ _ hd h => And.intro (hd.trans (And.left h)) (And.right h)) ?_
 repeat (first | (refine walk_pure0 rfl rfl (fun J hJ => ?_); go_simp; refine hJ _ ?_; clear hJ J) | (refine walk_load rfl rfl rfl rfl (fun J hJ => ?_); go_simp; refine hJ _ ?_; clear hJ J; try go_simp))
 refine walk_ext rfl rfl (fun we16 hb16 J hJ => ?_); go_simp
 have hh16 : Below wc13.heap.size wc13 we16 := belA
 clear hb16
 refine (O1.out _ (Bt hk15 hh16)).mono ?_
 rintro e wc17 ⟨rfl, hb17⟩
 refine hJ _ _ hb17 ?_
 clear hJ J
 have hh17 := Bt hh16 hb17
 clear hh16 hb17
 repeat (first | (refine walk_pure0 rfl rfl (fun J hJ => ?_); go_simp; refine hJ _ ?_; clear hJ J) | (refine walk_load rfl rfl rfl rfl (fun J hJ => ?_); go_simp; refine hJ _ ?_; clear hJ J; try go_simp))
 refine walk_ext rfl rfl (fun we18 hb18 J hJ => ?_); go_simp
 have hh18 : Below wc13.heap.size wc13 we18 := Bt hh17 belA
 clear hh17
 clear hb18
 refine (G1.out _ (Bt hk15 hh18)).mono ?_
 rintro e wc19 ⟨rfl, hb19⟩
 refine hJ _ _ hb19 ?_
 clear hJ J
 have hh19 := Bt hh18 hb19
 clear hh18 hb19
 repeat (first | (refine walk_pure0 rfl rfl (fun J hJ => ?_); go_simp; refine hJ _ ?_; clear hJ J) | (refine walk_load rfl rfl rfl rfl (fun J hJ => ?_); go_simp; refine hJ _ ?_; clear hJ J; try go_simp))
 refine walk_alloc rfl (fun bk20 wa20 hwa20 hNbk20 hltbk20 hAbk20 hxbk20 => ?_); go_simp; replace hxbk20 : Box _ _ _ _ := hxbk20; have hWbk20 : w.heap.size ≤ bk20 := (by first | omega | exact Nat.le_trans (Below.size (B := w.heap.size) belA) hNbk20)
 refine walk_fin [_, _] rfl (fun wf21 hf21 => ?_)
 have hh21 : Below wc13.heap.size wc13 wf21 := Bt hh19 belA
 have hq := hxbk20.later hf21
 have cq := hq.cell
 have fq := hq.free
 clear hxbk20 hf21 hh19
 clear cX1 lX1 cX2 lX2
 go_wp2_with fail
 obtain ⟨wq22, EW⟩ : ∃ y, ((((((wf21.setCell ⟨bk20, 0, none⟩ (.string b1)).setCell ⟨bk20, 1, none⟩ (.string b2)).setCell ⟨bk20, 2, none⟩ (.string b3)).setCell ⟨bk20, 3, none⟩ (.string b4)).setCell ⟨bk20, 4, none⟩ (.string b5)).setCell ⟨bk20, 5, none⟩ (.string b6)) = y := ⟨_, rfl⟩
 have hz : Below wc13.heap.size wc13 wq22 := by rw [← EW]; exact ((((((hh21.setCell hNbk20 _).setCell hNbk20 _).setCell hNbk20 _).setCell hNbk20 _).setCell hNbk20 _).setCell hNbk20 _)
 have X3 : Hid (Box wq22 bk20 #[.string b1, .string b2, .string b3, .string b4, .string b5, .string b6] 37) := Lib.hid (by rw [← EW]; exact ((((((hq.set 0 _).set 1 _).set 2 _).set 3 _).set 4 _).set 5 _))
 rw [EW]
 clear EW hq cq fq hh21
 replace X1 := Lib.hid (X1.out.later hz)
 replace X2 := Lib.hid (X2.out.later hz)
 replace HVC1 := Lib.hid (HVC1.out.later hz)
 replace HVC3 := Lib.hid (HVC3.out.later hz)
 have hk23 := Bt hk15 hz
 clear hk15
 clear hz
 clear hwa20 hNbk20 hltbk20 hAbk20 hWbk20
 go_wp2_with fail
 have cX1 := X1.out.cell; have lX1 := X1.out.lt
 have cX2 := X2.out.cell; have lX2 := X2.out.lt
 refine wp_region_walk [(.read, 0), (.read, 1), (.ext, 2), (.ext, 3), (.pure, 4), (.pure, 5), (.pure, 6), (.alloc #[.string ⟨#[]⟩, .string ⟨#[]⟩, .string ⟨#[]⟩, .string ⟨#[]⟩, .string ⟨#[]⟩, .string ⟨#[]⟩] 37, 7), (.fin, 8), (.fin, 9)] (by kernel_rfl) (by kernel_rfl) (allocRuns_of (by kernel_rfl)) (fun _ _ _ _ hd h => And.intro (hd.trans (And.left h)) (And.right h)) ?_
 repeat (first | (refine walk_pure0 rfl rfl (fun J hJ => ?_); go_simp; refine hJ _ ?_; clear hJ J) | (refine walk_load rfl rfl rfl rfl (fun J hJ => ?_); go_simp; refine hJ _ ?_; clear hJ J; try go_simp))
 refine walk_ext rfl rfl (fun we24 hb24 J hJ => ?_); go_simp
 have hh24 : Below wq22.heap.size wq22 we24 := belA
 clear hb24
 refine (O2.out _ (Bt hk23 hh24)).mono ?_
 rintro e wc25 ⟨rfl, hb25⟩
 refine hJ _ _ hb25 ?_
 clear hJ J
 have hh25 := Bt hh24 hb25
 clear hh24 hb25
 repeat (first | (refine walk_pure0 rfl rfl (fun J hJ => ?_); go_simp; refine hJ _ ?_; clear hJ J) | (refine walk_load rfl rfl rfl rfl (fun J hJ => ?_); go_simp; refine hJ _ ?_; clear hJ J; try go_simp))
 refine walk_ext rfl rfl (fun we26 hb26 J hJ => ?_); go_simp
 have hh26 : Below wq22.heap.size wq22 we26 := Bt hh25 belA
 clear hh25
 clear hb26
 refine (G2.out _ (Bt hk23 hh26)).mono ?_
 rintro e wc27 ⟨rfl, hb27⟩
 refine hJ _ _ hb27 ?_
 clear hJ J
 have hh27 := Bt hh26 hb27
 clear hh26 hb27
 repeat (first | (refine walk_pure0 rfl rfl (fun J hJ => ?_); go_simp; refine hJ _ ?_; clear hJ J) | (refine walk_load rfl rfl rfl rfl (fun J hJ => ?_); go_simp; refine hJ _ ?_; clear hJ J; try go_simp))
 refine walk_alloc rfl (fun bk28 wa28 hwa28 hNbk28 hltbk28 hAbk28 hxbk28 => ?_); go_simp; replace hxbk28 : Box _ _ _ _ := hxbk28; have hWbk28 : w.heap.size ≤ bk28 := (by first | omega | exact Nat.le_trans (Below.size (B := w.heap.size) belA) hNbk28)
 refine walk_fin [_, _] rfl (fun wf29 hf29 => ?_)
 have hh29 : Below wq22.heap.size wq22 wf29 := Bt hh27 belA
 have hq := hxbk28.later hf29
 have cq := hq.cell
 have fq := hq.free
 clear hxbk28 hf29 hh27
 clear cX1 lX1 cX2 lX2
 go_wp2_with fail
 obtain ⟨wq30, EW⟩ : ∃ y, ((((((wf29.setCell ⟨bk28, 0, none⟩ (.string f1)).setCell ⟨bk28, 1, none⟩ (.string f2)).setCell ⟨bk28, 2, none⟩ (.string f3)).setCell ⟨bk28, 3, none⟩ (.string f4)).setCell ⟨bk28, 4, none⟩ (.string f5)).setCell ⟨bk28, 5, none⟩ (.string f6)) = y := ⟨_, rfl⟩
 have hz : Below wq22.heap.size wq22 wq30 := by rw [← EW]; exact ((((((hh29.setCell hNbk28 _).setCell hNbk28 _).setCell hNbk28 _).setCell hNbk28 _).setCell hNbk28 _).setCell hNbk28 _)
 have X4 : Hid (Box wq30 bk28 #[.string f1, .string f2, .string f3, .string f4, .string f5, .string f6] 37) := Lib.hid (by rw [← EW]; exact ((((((hq.set 0 _).set 1 _).set 2 _).set 3 _).set 4 _).set 5 _))
 rw [EW]
 clear EW hq cq fq hh29
 replace X1 := Lib.hid (X1.out.later hz)
 replace X2 := Lib.hid (X2.out.later hz)
 replace HVC1 := Lib.hid (HVC1.out.later hz)
 replace HVC3 := Lib.hid (HVC3.out.later hz)
 replace X3 := Lib.hid (X3.out.later hz)
 have hk31 := Bt hk23 hz
 clear hk23
 clear hz
 clear hwa28 hNbk28 hltbk28 hAbk28 hWbk28
 go_wp2_with fail
 have cX1 := X1.out.cell; have lX1 := X1.out.lt
 have cX2 := X2.out.cell; have lX2 := X2.out.lt
 refine wp_region_walk [(.read, 0), (.read, 1), (.ext, 2), (.ext, 3), (.pure, 4), (.pure, 5), (.pure, 6), (.fin, 7), (.fin, 8)] (by kernel_rfl) (by kernel_rfl) (allocRuns_of (by kernel_rfl)) (fun _ _ _ _ hd h => And.intro (hd.trans (And.left h)) (And.right h)) ?_
 repeat (first | (refine walk_pure0 rfl rfl (fun J hJ => ?_); go_simp; refine hJ _ ?_; clear hJ J) | (refine walk_load rfl rfl rfl rfl (fun J hJ => ?_); go_simp; refine hJ _ ?_; clear hJ J; try go_simp))
 refine walk_ext rfl rfl (fun we32 hb32 J hJ => ?_); go_simp
 have hh32 : Below wq30.heap.size wq30 we32 := belA
 clear hb32
 refine (O1.out _ (Bt hk31 hh32)).mono ?_
 rintro e wc33 ⟨rfl, hb33⟩
 refine hJ _ _ hb33 ?_
 clear hJ J
 have hh33 := Bt hh32 hb33
 clear hh32 hb33
 repeat (first | (refine walk_pure0 rfl rfl (fun J hJ => ?_); go_simp; refine hJ _ ?_; clear hJ J) | (refine walk_load rfl rfl rfl rfl (fun J hJ => ?_); go_simp; refine hJ _ ?_; clear hJ J; try go_simp))
 refine walk_ext rfl rfl (fun we34 hb34 J hJ => ?_); go_simp
 have hh34 : Below wq30.heap.size wq30 we34 := Bt hh33 belA
 clear hh33
 clear hb34
 refine (M1.out _ (Bt hk31 hh34)).mono ?_
 rintro e wc35 ⟨hb35, v, rfl, hy, -⟩
 have hv36 := hy rfl
 obtain ⟨rs, hR, -⟩ := id hv36
 obtain ⟨vm36, qm36, rfl, -⟩ := hR
 generalize rs.length = nm36 at hv36 hJ
 clear hy
 refine hJ _ _ hb35 ?_
 clear hJ J
 have hh35 := Bt hh34 hb35
 have hl35 := hb35
 clear hh34 hb35
 clear hl35
 repeat (first | (refine walk_pure0 rfl rfl (fun J hJ => ?_); go_simp; refine hJ _ ?_; clear hJ J) | (refine walk_load rfl rfl rfl rfl (fun J hJ => ?_); go_simp; refine hJ _ ?_; clear hJ J; try go_simp))
 refine walk_fin [_, _] rfl (fun wf37 hf37 => ?_)
 have hh37 : Below wq30.heap.size wq30 wf37 := Bt hh35 belA
 have HVM1 := Lib.hid (hv36.later (w' := wf37) belA)
 clear hv36
 clear hf37 hh35
 clear cX1 lX1 cX2 lX2
 replace X1 := Lib.hid (X1.out.later hh37)
 replace X2 := Lib.hid (X2.out.later hh37)
 replace HVC1 := Lib.hid (HVC1.out.later hh37)
 replace HVC3 := Lib.hid (HVC3.out.later hh37)
 replace X3 := Lib.hid (X3.out.later hh37)
 replace X4 := Lib.hid (X4.out.later hh37)
 have hk38 := Bt hk31 hh37
 clear hk31
 clear hh37
 have cX1 := X1.out.cell; have lX1 := X1.out.lt
 go_wp2_with fail
 clear cX1 lX1
 refine (A1.out _ _ hk38 HVM1.out _ (Below.refl _ _)).mono ?_
 rintro e wc39 ⟨rfl, hb39⟩
 replace X1 := Lib.hid (X1.out.later hb39)
 replace X2 := Lib.hid (X2.out.later hb39)
 replace HVC1 := Lib.hid (HVC1.out.later hb39)
 replace HVC3 := Lib.hid (HVC3.out.later hb39)
 replace X3 := Lib.hid (X3.out.later hb39)
 replace X4 := Lib.hid (X4.out.later hb39)
 replace HVM1 := Lib.hid (HVM1.out.later hb39)
 have hk40 := Bt hk38 hb39
 clear hk38
 clear hb39
 go_wp2_with fail
 have hz : Below wc39.heap.size wc39 (wc39.alloc (.cells #[.string b1, .string b2, .string b3, .string b4, .string b5, .string b6] 38)) := belA
 obtain ⟨wq41, EW⟩ : ∃ y, (wc39.alloc (.cells #[.string b1, .string b2, .string b3, .string b4, .string b5, .string b6] 38)) = y := ⟨_, rfl⟩
 have X5 : Hid (Box wq41 (wc39.heap.size) #[.string b1, .string b2, .string b3, .string b4, .string b5, .string b6] 38) := Lib.hid (by rw [← EW]; exact Box.new _ _ _)
 rw [EW] at hz ⊢
 replace X1 := Lib.hid (X1.out.later hz)
 replace X2 := Lib.hid (X2.out.later hz)
 replace HVC1 := Lib.hid (HVC1.out.later hz)
 replace HVC3 := Lib.hid (HVC3.out.later hz)
 replace X3 := Lib.hid (X3.out.later hz)
 replace X4 := Lib.hid (X4.out.later hz)
 replace HVM1 := Lib.hid (HVM1.out.later hz)
 have hk42 := Bt hk40 hz
 clear hk40
 clear EW hz
 generalize wc39.heap.size = pq41 at *
 have cX1 := X1.out.cell; have lX1 := X1.out.lt
 have cX2 := X2.out.cell; have lX2 := X2.out.lt
 refine wp_region_walk [(.read, 0), (.read, 1), (.ext, 2), (.ext, 3), (.pure, 4), (.pure, 5), (.pure, 6), (.alloc #[.string ⟨#[]⟩, .string ⟨#[]⟩, .string ⟨#[]⟩, .string ⟨#[]⟩, .string ⟨#[]⟩, .string ⟨#[]⟩] 37, 7), (.fin, 8), (.fin, 9)] (by kernel_rfl) (by kernel_rfl) (allocRuns_of (by kernel_rfl)) (fun _ _ _ _ hd h => And.intro (hd.trans (And.left h)) (And.right h)) ?_
 repeat (first | (refine walk_pure0 rfl rfl (fun J hJ => ?_); go_simp; refine hJ _ ?_; clear hJ J) | (refine walk_load rfl rfl rfl rfl (fun J hJ => ?_); go_simp; refine hJ _ ?_; clear hJ J; try go_simp))
 refine walk_ext rfl rfl (fun we43 hb43 J hJ => ?_); go_simp
 have hh43 : Below wq41.heap.size wq41 we43 := belA
 clear hb43
 refine (O3.out _ (Bt hk42 hh43)).mono ?_
 rintro e wc44 ⟨rfl, hb44⟩
 refine hJ _ _ hb44 ?_
 clear hJ J
 have hh44 := Bt hh43 hb44
 clear hh43 hb44
 repeat (first | (refine walk_pure0 rfl rfl (fun J hJ => ?_); go_simp; refine hJ _ ?_; clear hJ J) | (refine walk_load rfl rfl rfl rfl (fun J hJ => ?_); go_simp; refine hJ _ ?_; clear hJ J; try go_simp))
 refine walk_ext rfl rfl (fun we45 hb45 J hJ => ?_); go_simp
 have hh45 : Below wq41.heap.size wq41 we45 := Bt hh44 belA
 clear hh44
 clear hb45
 refine (G3.out _ (Bt hk42 hh45)).mono ?_
 rintro e wc46 ⟨rfl, hb46⟩
 refine hJ _ _ hb46 ?_
 clear hJ J
 have hh46 := Bt hh45 hb46
 clear hh45 hb46
 repeat (first | (refine walk_pure0 rfl rfl (fun J hJ => ?_); go_simp; refine hJ _ ?_; clear hJ J) | (refine walk_load rfl rfl rfl rfl (fun J hJ => ?_); go_simp; refine hJ _ ?_; clear hJ J; try go_simp))
 refine walk_alloc rfl (fun bk47 wa47 hwa47 hNbk47 hltbk47 hAbk47 hxbk47 => ?_); go_simp; replace hxbk47 : Box _ _ _ _ := hxbk47; have hWbk47 : w.heap.size ≤ bk47 := (by first | omega | exact Nat.le_trans (Below.size (B := w.heap.size) belA) hNbk47)
 refine walk_fin [_, _] rfl (fun wf48 hf48 => ?_)
 have hh48 : Below wq41.heap.size wq41 wf48 := Bt hh46 belA
 have hq := hxbk47.later hf48
 have cq := hq.cell
 have fq := hq.free
 clear hxbk47 hf48 hh46
 clear cX1 lX1 cX2 lX2
 go_wp2_with fail
 obtain ⟨wq49, EW⟩ : ∃ y, ((((((wf48.setCell ⟨bk47, 0, none⟩ (.string k1)).setCell ⟨bk47, 1, none⟩ (.string k2)).setCell ⟨bk47, 2, none⟩ (.string k3)).setCell ⟨bk47, 3, none⟩ (.string k4)).setCell ⟨bk47, 4, none⟩ (.string k5)).setCell ⟨bk47, 5, none⟩ (.string k6)) = y := ⟨_, rfl⟩
 have hz : Below wq41.heap.size wq41 wq49 := by rw [← EW]; exact ((((((hh48.setCell hNbk47 _).setCell hNbk47 _).setCell hNbk47 _).setCell hNbk47 _).setCell hNbk47 _).setCell hNbk47 _)
 rw [EW]
 clear EW hq cq fq hh48
 replace X1 := Lib.hid (X1.out.later hz)
 replace X2 := Lib.hid (X2.out.later hz)
 replace HVC1 := Lib.hid (HVC1.out.later hz)
 replace HVC3 := Lib.hid (HVC3.out.later hz)
 replace X3 := Lib.hid (X3.out.later hz)
 replace X4 := Lib.hid (X4.out.later hz)
 replace HVM1 := Lib.hid (HVM1.out.later hz)
 replace X5 := Lib.hid (X5.out.later hz)
 have hk50 := Bt hk42 hz
 clear hk42
 clear hz
 clear hwa47 hNbk47 hltbk47 hAbk47 hWbk47
 go_wp2_with fail
 have cX2 := X2.out.cell; have lX2 := X2.out.lt
 refine wp_region_walk [(.read, 1), (.ext, 0), (.ext, 2), (.ext, 3), (.pure, 4), (.pure, 5), (.pure, 6), (.alloc #[.string ⟨#[]⟩, .string ⟨#[]⟩, .string ⟨#[]⟩, .string ⟨#[]⟩, .string ⟨#[]⟩, .string ⟨#[]⟩] 37, 7), (.fin, 8), (.fin, 9)] (by kernel_rfl) (by kernel_rfl) (allocRuns_of (by kernel_rfl)) (fun _ _ _ _ hd h => And.intro (hd.trans (And.left h)) (And.right h)) ?_
 repeat (first | (refine walk_pure0 rfl rfl (fun J hJ => ?_); go_simp; refine hJ _ ?_; clear hJ J) | (refine walk_load rfl rfl rfl rfl (fun J hJ => ?_); go_simp; refine hJ _ ?_; clear hJ J; try go_simp))
 refine walk_ext rfl rfl (fun we51 hb51 J hJ => ?_); go_simp
 have hh51 : Below wq49.heap.size wq49 we51 := belA
 clear hb51
 refine (T3.out _ (Bt hk50 hh51)).mono ?_
 rintro e wc52 ⟨rfl, hb52⟩
 refine hJ _ _ hb52 ?_
 clear hJ J
 have hh52 := Bt hh51 hb52
 clear hh51 hb52
 repeat (first | (refine walk_pure0 rfl rfl (fun J hJ => ?_); go_simp; refine hJ _ ?_; clear hJ J) | (refine walk_load rfl rfl rfl rfl (fun J hJ => ?_); go_simp; refine hJ _ ?_; clear hJ J; try go_simp))
 refine walk_ext rfl rfl (fun we53 hb53 J hJ => ?_); go_simp
 have hh53 : Below wq49.heap.size wq49 we53 := Bt hh52 belA
 clear hh52
 clear hb53
 refine (O1.out _ (Bt hk50 hh53)).mono ?_
 rintro e wc54 ⟨rfl, hb54⟩
 refine hJ _ _ hb54 ?_
 clear hJ J
 have hh54 := Bt hh53 hb54
 clear hh53 hb54
 repeat (first | (refine walk_pure0 rfl rfl (fun J hJ => ?_); go_simp; refine hJ _ ?_; clear hJ J) | (refine walk_load rfl rfl rfl rfl (fun J hJ => ?_); go_simp; refine hJ _ ?_; clear hJ J; try go_simp))
 refine walk_ext rfl rfl (fun we55 hb55 J hJ => ?_); go_simp
 have hh55 : Below wq49.heap.size wq49 we55 := Bt hh54 belA
 clear hh54
 clear hb55
 refine (G4.out _ (Bt hk50 hh55)).mono ?_
 rintro e wc56 ⟨rfl, hb56⟩
 refine hJ _ _ hb56 ?_
 clear hJ J
 have hh56 := Bt hh55 hb56
 clear hh55 hb56
 repeat (first | (refine walk_pure0 rfl rfl (fun J hJ => ?_); go_simp; refine hJ _ ?_; clear hJ J) | (refine walk_load rfl rfl rfl rfl (fun J hJ => ?_); go_simp; refine hJ _ ?_; clear hJ J; try go_simp))
 refine walk_alloc rfl (fun bk57 wa57 hwa57 hNbk57 hltbk57 hAbk57 hxbk57 => ?_); go_simp; replace hxbk57 : Box _ _ _ _ := hxbk57; have hWbk57 : w.heap.size ≤ bk57 := (by first | omega | exact Nat.le_trans (Below.size (B := w.heap.size) belA) hNbk57)
 refine walk_fin [_, _] rfl (fun wf58 hf58 => ?_)
 have hh58 : Below wq49.heap.size wq49 wf58 := Bt hh56 belA
 have hq := hxbk57.later hf58
 have cq := hq.cell
 have fq := hq.free
 clear hxbk57 hf58 hh56
 clear cX2 lX2
 go_wp2_with fail
 obtain ⟨wq59, EW⟩ : ∃ y, ((((((wf58.setCell ⟨bk57, 0, none⟩ (.string k1)).setCell ⟨bk57, 1, none⟩ (.string k2)).setCell ⟨bk57, 2, none⟩ (.string k3)).setCell ⟨bk57, 3, none⟩ (.string k4)).setCell ⟨bk57, 4, none⟩ (.string k5)).setCell ⟨bk57, 5, none⟩ (.string k6)) = y := ⟨_, rfl⟩
 have hz : Below wq49.heap.size wq49 wq59 := by rw [← EW]; exact ((((((hh58.setCell hNbk57 _).setCell hNbk57 _).setCell hNbk57 _).setCell hNbk57 _).setCell hNbk57 _).setCell hNbk57 _)
 rw [EW]
 clear EW hq cq fq hh58
 clear X1
 replace X2 := Lib.hid (X2.out.later hz)
 replace HVC1 := Lib.hid (HVC1.out.later hz)
 replace HVC3 := Lib.hid (HVC3.out.later hz)
 replace X3 := Lib.hid (X3.out.later hz)
 replace X4 := Lib.hid (X4.out.later hz)
 replace HVM1 := Lib.hid (HVM1.out.later hz)
 replace X5 := Lib.hid (X5.out.later hz)
 have hk60 := Bt hk50 hz
 clear hk50
 clear hz
 clear hwa57 hNbk57 hltbk57 hAbk57 hWbk57
 go_wp2_with fail
 have cX3 := X3.out.cell; have lX3 := X3.out.lt
 have cX2 := X2.out.cell; have lX2 := X2.out.lt
 have cX4 := X4.out.cell; have lX4 := X4.out.lt
 have cX5 := X5.out.cell; have lX5 := X5.out.lt
 refine wp_region_walk [(.pure, 0), (.pure, 1), (.pure, 2), (.pure, 3), (.ext, 4), (.ext, 5), (.pure, 6), (.pure, 7), (.pure, 8), (.pure, 9), (.pure, 10), (.pure, 11), (.pure, 12), (.ext, 13), (.ext, 14), (.pure, 15), (.pure, 16), (.pure, 17), (.pure, 18), (.pure, 19), (.pure, 20), (.pure, 21), (.pure, 22), (.pure, 23), (.pure, 24), (.read, 25), (.read, 26), (.pure, 27), (.pure, 28), (.pure, 29), (.pure, 30), (.pure, 31), (.pure, 32), (.pure, 33), (.read, 34), (.ext, 35), (.pure, 36), (.pure, 37), (.pure, 38), (.pure, 39), (.pure, 40), (.pure, 41), (.pure, 42), (.pure, 43), (.ext, 44), (.ext, 45), (.pure, 46), (.pure, 47), (.pure, 48), (.pure, 49), (.pure, 50), (.pure, 51), (.read, 52), (.read, 53), (.pure, 54), (.pure, 55), (.pure, 56), (.pure, 57), (.pure, 58), (.pure, 59), (.pure, 60), (.pure, 61), (.pure, 62), (.pure, 63), (.fin, 64)] (by kernel_rfl) (by kernel_rfl) (allocRuns_of (by kernel_rfl)) (fun _ _ _ _ hd h => And.intro (hd.trans (And.left h)) (And.right h)) ?_
 repeat (first | (refine walk_pure0 rfl rfl (fun J hJ => ?_); go_simp; refine hJ _ ?_; clear hJ J) | (refine walk_load rfl rfl rfl rfl (fun J hJ => ?_); go_simp; refine hJ _ ?_; clear hJ J; try go_simp) | (refine walk_pureG rfl rfl (fun J hJ => ?_); go_simp; refine hJ _ ?_; clear hJ J) | (refine walk_loadG rfl rfl rfl rfl (fun J hJ => ?_); go_simp; refine hJ _ ?_; clear hJ J; try go_simp))
 refine walk_extG rfl rfl (fun we61 hb61 J hJ => ?_); go_simp
 have hh61 : Below wq59.heap.size wq59 we61 := belA
 clear hb61
 refine (T4.out _ (Bt hk60 hh61)).mono ?_
 rintro e wc62 ⟨rfl, hb62⟩
 refine hJ _ _ hb62 ?_
 clear hJ J
 have hh62 := Bt hh61 hb62
 clear hh61 hb62
 clear cX3 lX3 cX2 lX2 cX4 lX4 cX5 lX5
 have cX3 := (X3.out.later hh62).cell; have lX3 := (X3.out.later hh62).lt
 have cX2 := (X2.out.later hh62).cell; have lX2 := (X2.out.later hh62).lt
 have cX4 := (X4.out.later hh62).cell; have lX4 := (X4.out.later hh62).lt
 have cX5 := (X5.out.later hh62).cell; have lX5 := (X5.out.later hh62).lt
 repeat (first | (refine walk_pure0 rfl rfl (fun J hJ => ?_); go_simp; refine hJ _ ?_; clear hJ J) | (refine walk_load rfl rfl rfl rfl (fun J hJ => ?_); go_simp; refine hJ _ ?_; clear hJ J; try go_simp) | (refine walk_pureG rfl rfl (fun J hJ => ?_); go_simp; refine hJ _ ?_; clear hJ J) | (refine walk_loadG rfl rfl rfl rfl (fun J hJ => ?_); go_simp; refine hJ _ ?_; clear hJ J; try go_simp))
 refine walk_extG rfl rfl (fun we63 hb63 J hJ => ?_); go_simp
 have hh63 : Below wq59.heap.size wq59 we63 := Bt hh62 belA
 clear hh62
 clear hb63
 refine (ret_row _ _ ⟨⟨d1, d2⟩, ⟨d3, d4⟩, ⟨d5, d6⟩⟩ _ (HVC1.out.later hh63) F1.out.1 F1.out.2 _ (Below.refl _ _)).mono ?_
 rintro e wc64 ⟨rfl, hb64⟩
 refine hJ _ _ hb64 ?_
 clear hJ J
 have hh64 := Bt hh63 hb64
 clear hh63 hb64
 clear cX3 lX3 cX2 lX2 cX4 lX4 cX5 lX5
 have cX3 := (X3.out.later hh64).cell; have lX3 := (X3.out.later hh64).lt
 have cX2 := (X2.out.later hh64).cell; have lX2 := (X2.out.later hh64).lt
 have cX4 := (X4.out.later hh64).cell; have lX4 := (X4.out.later hh64).lt
 have cX5 := (X5.out.later hh64).cell; have lX5 := (X5.out.later hh64).lt
 repeat (first | (refine walk_pure0 rfl rfl (fun J hJ => ?_); go_simp; refine hJ _ ?_; clear hJ J) | (refine walk_load rfl rfl rfl rfl (fun J hJ => ?_); go_simp; refine hJ _ ?_; clear hJ J; try go_simp) | (refine walk_pureG rfl rfl (fun J hJ => ?_); go_simp; refine hJ _ ?_; clear hJ J) | (refine walk_loadG rfl rfl rfl rfl (fun J hJ => ?_); go_simp; refine hJ _ ?_; clear hJ J; try go_simp))
 refine walk_extG rfl rfl (fun we65 hb65 J hJ => ?_); go_simp
 have hh65 : Below wq59.heap.size wq59 we65 := Bt hh64 belA
 clear hh64
 clear hb65
 refine (T5.out _ (Bt hk60 hh65)).mono ?_
 rintro e wc66 ⟨rfl, hb66⟩
 refine hJ _ _ hb66 ?_
 clear hJ J
 have hh66 := Bt hh65 hb66
 clear hh65 hb66
 clear cX3 lX3 cX2 lX2 cX4 lX4 cX5 lX5
 have cX3 := (X3.out.later hh66).cell; have lX3 := (X3.out.later hh66).lt
 have cX2 := (X2.out.later hh66).cell; have lX2 := (X2.out.later hh66).lt
 have cX4 := (X4.out.later hh66).cell; have lX4 := (X4.out.later hh66).lt
 have cX5 := (X5.out.later hh66).cell; have lX5 := (X5.out.later hh66).lt
 repeat (first | (refine walk_pure0 rfl rfl (fun J hJ => ?_); go_simp; refine hJ _ ?_; clear hJ J) | (refine walk_load rfl rfl rfl rfl (fun J hJ => ?_); go_simp; refine hJ _ ?_; clear hJ J; try go_simp) | (refine walk_pureG rfl rfl (fun J hJ => ?_); go_simp; refine hJ _ ?_; clear hJ J) | (refine walk_loadG rfl rfl rfl rfl (fun J hJ => ?_); go_simp; refine hJ _ ?_; clear hJ J; try go_simp))
 refine walk_extG rfl rfl (fun we67 hb67 J hJ => ?_); go_simp
 have hh67 : Below wq59.heap.size wq59 we67 := Bt hh66 belA
 clear hh66
 clear hb67
 refine (ret_row _ _ ⟨⟨e1, e2⟩, ⟨e3, e4⟩, ⟨e5, e6⟩⟩ _ (HVC3.out.later hh67) F3.out.1 F3.out.2 _ (Below.refl _ _)).mono ?_
 rintro e wc68 ⟨rfl, hb68⟩
 refine hJ _ _ hb68 ?_
 clear hJ J
 have hh68 := Bt hh67 hb68
 clear hh67 hb68
 clear cX3 lX3 cX2 lX2 cX4 lX4 cX5 lX5
 have cX3 := (X3.out.later hh68).cell; have lX3 := (X3.out.later hh68).lt
 have cX2 := (X2.out.later hh68).cell; have lX2 := (X2.out.later hh68).lt
 have cX4 := (X4.out.later hh68).cell; have lX4 := (X4.out.later hh68).lt
 have cX5 := (X5.out.later hh68).cell; have lX5 := (X5.out.later hh68).lt
 repeat (first | (refine walk_pure0 rfl rfl (fun J hJ => ?_); go_simp; refine hJ _ ?_; clear hJ J) | (refine walk_load rfl rfl rfl rfl (fun J hJ => ?_); go_simp; refine hJ _ ?_; clear hJ J; try go_simp) | (refine walk_pureG rfl rfl (fun J hJ => ?_); go_simp; refine hJ _ ?_; clear hJ J) | (refine walk_loadG rfl rfl rfl rfl (fun J hJ => ?_); go_simp; refine hJ _ ?_; clear hJ J; try go_simp))
 refine walk_extG rfl rfl (fun we69 hb69 J hJ => ?_); go_simp
 have hh69 : Below wq59.heap.size wq59 we69 := Bt hh68 belA
 clear hh68
 clear hb69
 refine (T6.out _ (Bt hk60 hh69)).mono ?_
 rintro e wc70 ⟨rfl, hb70⟩
 refine hJ _ _ hb70 ?_
 clear hJ J
 have hh70 := Bt hh69 hb70
 clear hh69 hb70
 clear cX3 lX3 cX2 lX2 cX4 lX4 cX5 lX5
 have cX5 := (X5.out.later hh70).cell; have lX5 := (X5.out.later hh70).lt
 have cX2 := (X2.out.later hh70).cell; have lX2 := (X2.out.later hh70).lt
 repeat (first | (refine walk_pure0 rfl rfl (fun J hJ => ?_); go_simp; refine hJ _ ?_; clear hJ J) | (refine walk_load rfl rfl rfl rfl (fun J hJ => ?_); go_simp; refine hJ _ ?_; clear hJ J; try go_simp) | (refine walk_pureG rfl rfl (fun J hJ => ?_); go_simp; refine hJ _ ?_; clear hJ J) | (refine walk_loadG rfl rfl rfl rfl (fun J hJ => ?_); go_simp; refine hJ _ ?_; clear hJ J; try go_simp))
 refine walk_extG rfl rfl (fun we71 hb71 J hJ => ?_); go_simp
 have hh71 : Below wq59.heap.size wq59 we71 := Bt hh70 belA
 clear hh70
 clear hb71
 refine (T7.out _ (Bt hk60 hh71)).mono ?_
 rintro e wc72 ⟨rfl, hb72⟩
 refine hJ _ _ hb72 ?_
 clear hJ J
 have hh72 := Bt hh71 hb72
 clear hh71 hb72
 clear cX5 lX5 cX2 lX2
 have cX5 := (X5.out.later hh72).cell; have lX5 := (X5.out.later hh72).lt
 have cX2 := (X2.out.later hh72).cell; have lX2 := (X2.out.later hh72).lt
 repeat (first | (refine walk_pure0 rfl rfl (fun J hJ => ?_); go_simp; refine hJ _ ?_; clear hJ J) | (refine walk_load rfl rfl rfl rfl (fun J hJ => ?_); go_simp; refine hJ _ ?_; clear hJ J; try go_simp) | (refine walk_pureG rfl rfl (fun J hJ => ?_); go_simp; refine hJ _ ?_; clear hJ J) | (refine walk_loadG rfl rfl rfl rfl (fun J hJ => ?_); go_simp; refine hJ _ ?_; clear hJ J; try go_simp))
 refine walk_extG rfl rfl (fun we73 hb73 J hJ => ?_); go_simp
 have hh73 : Below wq59.heap.size wq59 we73 := Bt hh72 belA
 clear hh72
 clear hb73
 refine (ret_row _ _ ⟨⟨g1, g2⟩, ⟨g3, g4⟩, ⟨g5, g6⟩⟩ _ (HVM1.out.later hh73) FM.out.1 FM.out.2 _ (Below.refl _ _)).mono ?_
 rintro e wc74 ⟨rfl, hb74⟩
 refine hJ _ _ hb74 ?_
 clear hJ J
 have hh74 := Bt hh73 hb74
 clear hh73 hb74
 clear cX5 lX5 cX2 lX2
 have cX5 := (X5.out.later hh74).cell; have lX5 := (X5.out.later hh74).lt
 have cX2 := (X2.out.later hh74).cell; have lX2 := (X2.out.later hh74).lt
 repeat (first | (refine walk_pure0 rfl rfl (fun J hJ => ?_); go_simp; refine hJ _ ?_; clear hJ J) | (refine walk_load rfl rfl rfl rfl (fun J hJ => ?_); go_simp; refine hJ _ ?_; clear hJ J; try go_simp) | (refine walk_pureG rfl rfl (fun J hJ => ?_); go_simp; refine hJ _ ?_; clear hJ J) | (refine walk_loadG rfl rfl rfl rfl (fun J hJ => ?_); go_simp; refine hJ _ ?_; clear hJ J; try go_simp))
 refine walk_fin [_] rfl (fun wf75 hf75 => ?_)
 have hh75 : Below wq59.heap.size wq59 wf75 := Bt hh74 belA
 clear hf75 hh74
 clear cX5 lX5 cX2 lX2
 replace X2 := Lib.hid (X2.out.later hh75)
 replace HVC1 := Lib.hid (HVC1.out.later hh75)
 replace HVC3 := Lib.hid (HVC3.out.later hh75)
 replace X3 := Lib.hid (X3.out.later hh75)
 replace X4 := Lib.hid (X4.out.later hh75)
 replace HVM1 := Lib.hid (HVM1.out.later hh75)
 replace X5 := Lib.hid (X5.out.later hh75)
 have hk76 := Bt hk60 hh75
 clear hk60
 clear hh75
 go_wp2_with fail
 go_ret
 exact ⟨rfl, hk76⟩
end Go.Proofs.verdigrislaw25
namespace Go.Proofs.verdigrisref23
open Go Go.RowKit Go.SW Go.Num Go.Mem Go.Proofs Go.Dec Go.Fra
set_option maxRecDepth 10000 in
set_option maxHeartbeats 4000000 in
theorem Of_ok (n d : Int) (h1 : -9223372036854775808 ≤ n) (h2 : n ≤ 9223372036854775807) (h3 : -9223372036854775808 ≤ d) (h4 : d ≤ 9223372036854775807) (w : World) :
  Calls Tryz.prog 18 #[.int .i64 n, .int .i64 d] w (fun e w' => e = .returned (ofF n d).1.v ∧ Below w.heap.size w w') := by
 have H1 := Lib.hid (fun W => verdigrisref02.Of_ok n d h1 h2 h3 h4 W)
 obtain ⟨⟨⟨s1, s2⟩, k⟩, E⟩ : ∃ y, ofF n d = y := ⟨_, rfl⟩
 rw [E] at H1 ⊢
 replace H1 : Hid (∀ W, Calls Tryz.prog 46 #[.int .i64 n, .int .i64 d] W (fun e w' => e = .returned (.tuple #[.agg #[.string s1, .string s2], .int .i64 k]) ∧ Below W.heap.size W w')) := H1
 clear E h1 h2 h3 h4
 go_enter Tryz.func18, Tryz.ntmps18
 go_wp2_with fail
 have hz : Below w.heap.size w (w.alloc (.cells #[.string ⟨#[]⟩, .string ⟨#[]⟩] 36)) := belA
 obtain ⟨wq1, EW⟩ : ∃ y, (w.alloc (.cells #[.string ⟨#[]⟩, .string ⟨#[]⟩] 36)) = y := ⟨_, rfl⟩
 have X1 : Hid (Box wq1 (w.heap.size) #[.string ⟨#[]⟩, .string ⟨#[]⟩] 36) := Lib.hid (by rw [← EW]; exact Box.new _ _ _)
 rw [EW] at hz ⊢
 have hk2 := Bt (Below.refl _ _) hz
 clear EW hz
 refine (H1.out _).mono ?_
 rintro e wc3 ⟨rfl, hb3⟩
 replace X1 := Lib.hid (X1.out.later hb3)
 have hk5 := Bt hk2 hb3
 clear hk2
 clear hb3
 have cX1 := X1.out.cell; have lX1 := X1.out.lt; have fX1 := X1.out.free
 have hres := X1.out
 have cres := hres.cell
 have fres := hres.free
 go_wp2_with fail
 refine ret_c rfl rfl boxA Tryz.underlying36 rfl (by kernel_rfl) ?_
 exact ⟨rfl, belA⟩
theorem lt_tenTo {k : Nat} (h : 4 ≤ k) : 2000 < tenTo k := by
 unfold tenTo
 have := Nat.pow_le_pow_right (n := 10) (by omega) h
 omega
theorem okq_2000 {q : Rat} (h1 : q.num.natAbs ≤ 2000) (h2 : q.den ≤ 2000) : okq q = true := by
 have ht : 2000 < tenTo 600 := lt_tenTo (by omega)
 unfold okq okn
 rw [Bool.and_eq_true]
 exact ⟨decide_eq_true (by omega), decide_eq_true (by omega)⟩
theorem of_tq {n : Int} (h1 : 1 ≤ n) (h2 : n ≤ 2000) (w : World) : Calls Tryz.prog 18 #[.int .i64 n, .int .i64 1000] w (fun e w' => e = .returned (Fr.of (verdigrislaw25.q2 n 1000)).v ∧ Below w.heap.size w w') := by
 have h := Of_ok n 1000 (by omega) (by omega) (by omega) (by omega) w
 have e : (ofF n 1000).1 = Fr.of (verdigrislaw25.q2 n 1000) := by
  unfold ofF wr verdigrislaw25.q2
  rw [if_neg (by omega)]
  have hk : okq ((n : Rat) / (1000 : Int)) = true := by
   obtain ⟨l1, l2⟩ := verdigrisref02.low_le (n := n) (d := 1000) (by omega)
   exact okq_2000 (by omega) (by omega)
  rw [if_pos hk]
 rw [e] at h
 exact h
set_option maxRecDepth 10000 in
set_option maxHeartbeats 4000000 in
theorem White_ok (a b c : Int) (ha : 0 ≤ a ∧ a ≤ 65535) (hb : 0 ≤ b ∧ b ≤ 65535) (hc : 0 ≤ c ∧ c ≤ 65535) (w : World) :
  Calls Tryz.prog 10 #[.agg #[.int .u16 a, .int .u16 b, .int .u16 c]] w (fun e w' => e = .returned (verdigrislaw25.tq (1 + a % 2000) (1 + b % 2000) (1 + c % 2000) 1000).v ∧ Below w.heap.size w w') := by
 have H1 := Lib.hid (fun W => of_tq (n := 1 + a % 2000) (by omega) (by omega) W)
 have H2 := Lib.hid (fun W => of_tq (n := 1 + b % 2000) (by omega) (by omega) W)
 have H3 := Lib.hid (fun W => of_tq (n := 1 + c % 2000) (by omega) (by omega) W)
 have W0 : ∀ z : Int, 0 ≤ z ∧ z ≤ 65535 → IntKind.i64.wrap z = z := fun z h => by unfold IntKind.wrap; simp [IntKind.bits]; omega
 have wa := W0 a ha
 have wb := W0 b hb
 have wc := W0 c hc
 have wa1 := W0 (1 + a % 2000) (by omega)
 have wb1 := W0 (1 + b % 2000) (by omega)
 have wc1 := W0 (1 + c % 2000) (by omega)
 have ta := Int.tmod_eq_emod_of_nonneg (b := 2000) ha.1
 have tb := Int.tmod_eq_emod_of_nonneg (b := 2000) hb.1
 have tc := Int.tmod_eq_emod_of_nonneg (b := 2000) hc.1
 obtain ⟨⟨⟨s1, t1⟩, ⟨s2, t2⟩, ⟨s3, t3⟩⟩, E⟩ : ∃ y, verdigrislaw25.tq (1 + a % 2000) (1 + b % 2000) (1 + c % 2000) 1000 = y := ⟨_, rfl⟩
 rw [E]
 unfold verdigrislaw25.tq at E
 injection E with E1 E2 E3
 rw [E1] at H1
 rw [E2] at H2
 rw [E3] at H3
 unfold Fr.v at H1 H2 H3
 clear E1 E2 E3 ha hb hc W0
 go_enter Tryz.func10, Tryz.ntmps10
 go_wp2_with fail
 have hz : Below w.heap.size w ((w.alloc (.cells #[.int .u16 a, .int .u16 b, .int .u16 c] 24)).alloc (.cells #[.string ⟨#[]⟩, .string ⟨#[]⟩, .string ⟨#[]⟩, .string ⟨#[]⟩, .string ⟨#[]⟩, .string ⟨#[]⟩] 38)) := belA
 obtain ⟨wq1, EW⟩ : ∃ y, ((w.alloc (.cells #[.int .u16 a, .int .u16 b, .int .u16 c] 24)).alloc (.cells #[.string ⟨#[]⟩, .string ⟨#[]⟩, .string ⟨#[]⟩, .string ⟨#[]⟩, .string ⟨#[]⟩, .string ⟨#[]⟩] 38)) = y := ⟨_, rfl⟩
 have X1 : Hid (Box wq1 (w.heap.size) #[.int .u16 a, .int .u16 b, .int .u16 c] 24) := Lib.hid (by rw [← EW]; exact Box.alloc (Box.new _ _ _) _)
 have X2 : Hid (Box wq1 (w.heap.size + 1) #[.string ⟨#[]⟩, .string ⟨#[]⟩, .string ⟨#[]⟩, .string ⟨#[]⟩, .string ⟨#[]⟩, .string ⟨#[]⟩] 38) := Lib.hid (by rw [← EW]; exact Box.at1 _ _ _ _)
 rw [EW] at hz ⊢
 have hk2 := Bt (Below.refl _ _) hz
 clear EW hz
 have cX1 := X1.out.cell; have lX1 := X1.out.lt; have fX1 := X1.out.free
 refine wp_region_walk [(.pure, 0), (.read, 1), (.pure, 2), (.pure, 3), (.pure, 4), (.pure, 6), (.read, 7), (.pure, 8), (.pure, 9), (.pure, 10), (.pure, 12), (.read, 13), (.pure, 14), (.pure, 15), (.pure, 16), (.ext, 5), (.ext, 11), (.ext, 17), (.pure, 18), (.fin, 19)] (by kernel_rfl) (by kernel_rfl) (allocRuns_of (by kernel_rfl)) (fun _ _ _ _ hd h => And.intro (hd.trans (And.left h)) (And.right h)) ?_
 repeat (first | (refine walk_pure0 rfl rfl (fun J hJ => ?_); go_simp; refine hJ _ ?_; clear hJ J) | (refine walk_load rfl rfl rfl rfl (fun J hJ => ?_); go_simp; refine hJ _ ?_; clear hJ J; try go_simp))
 refine walk_ext rfl rfl (fun we3 hb3 J hJ => ?_); go_simp
 have hh3 : Below wq1.heap.size wq1 we3 := belA
 clear hb3
 refine (H1.out _).mono ?_
 rintro e wc4 ⟨rfl, hb4⟩
 refine hJ _ _ hb4 ?_
 clear hJ J
 have hh4 := Bt hh3 hb4
 clear hh3 hb4
 repeat (first | (refine walk_pure0 rfl rfl (fun J hJ => ?_); go_simp; refine hJ _ ?_; clear hJ J) | (refine walk_load rfl rfl rfl rfl (fun J hJ => ?_); go_simp; refine hJ _ ?_; clear hJ J; try go_simp))
 refine walk_ext rfl rfl (fun we6 hb6 J hJ => ?_); go_simp
 have hh6 : Below wq1.heap.size wq1 we6 := Bt hh4 belA
 clear hb6 hh4
 refine (H2.out _).mono ?_
 rintro e wc7 ⟨rfl, hb7⟩
 refine hJ _ _ hb7 ?_
 clear hJ J
 have hh7 := Bt hh6 hb7
 clear hh6 hb7
 repeat (first | (refine walk_pure0 rfl rfl (fun J hJ => ?_); go_simp; refine hJ _ ?_; clear hJ J) | (refine walk_load rfl rfl rfl rfl (fun J hJ => ?_); go_simp; refine hJ _ ?_; clear hJ J; try go_simp))
 refine walk_ext rfl rfl (fun we9 hb9 J hJ => ?_); go_simp
 have hh9 : Below wq1.heap.size wq1 we9 := Bt hh7 belA
 clear hb9 hh7
 refine (H3.out _).mono ?_
 rintro e wc10 ⟨rfl, hb10⟩
 refine hJ _ _ hb10 ?_
 clear hJ J
 have hh10 := Bt hh9 hb10
 clear hh9 hb10
 repeat (first | (refine walk_pure0 rfl rfl (fun J hJ => ?_); go_simp; refine hJ _ ?_; clear hJ J) | (refine walk_load rfl rfl rfl rfl (fun J hJ => ?_); go_simp; refine hJ _ ?_; clear hJ J; try go_simp))
 refine walk_fin [_] rfl (fun wf12 hf12 => ?_)
 have hh12 : Below wq1.heap.size wq1 wf12 := Bt hh10 belA
 clear hf12 hh10
 clear cX1 lX1 fX1
 replace X1 := Lib.hid (X1.out.later hh12)
 replace X2 := Lib.hid (X2.out.later hh12)
 have hk13 := Bt hk2 hh12
 clear hk2
 clear hh12
 have cX2 := X2.out.cell; have lX2 := X2.out.lt; have fX2 := X2.out.free
 have hres := X2.out
 have cres := hres.cell
 have fres := hres.free
 go_wp2_with fail
 refine ret_c rfl rfl boxA Tryz.underlying38 rfl (by kernel_rfl) ?_
 exact ⟨rfl, belA⟩
end Go.Proofs.verdigrisref23
namespace Go.Proofs.verdigrislaw25
open Go Go.RowKit Go.SW Go.Num Go.Mem Go.Proofs Go.Dec Go.Fra
theorem MatV.slice {w : World} {v : Value} {m : List (List Fr)} (h : MatV w v m) : ∃ pa l ca, v = .slice pa l ca := by
 obtain ⟨rs, ⟨a, c, e, -⟩, -⟩ := h
 exact ⟨_, _, _, e⟩
/-- Three small numbers over 1000. -/
theorem wh_of {a b c : Int} : ∃ s, adapt.Wh s ∧ tq (1 + a % 2000) (1 + b % 2000) (1 + c % 2000) 1000 = adapt.tri3 s := by
 have key : ∀ n : Int, adapt.Ht 4 (q2 (1 + n % 2000) 1000) ∧ 0 < q2 (1 + n % 2000) 1000 := fun n => by
  refine ⟨⟨1 + n % 2000, 1000, by omega, by decide, ?_, rfl⟩, ?_⟩
  ·have : (2000 : Nat) ≤ tenTo 4 := by decide
   omega
  ·unfold q2
   have h1 : ((0 : Int) : Rat) < ((1 + n % 2000 : Int) : Rat) := Rat.intCast_lt_intCast.2 (by omega)
   rw [Rat.div_def]
   exact Rat.mul_pos h1 (by decide +kernel)
 refine ⟨fun i => if i = 0 then q2 (1 + a % 2000) 1000 else if i = 1 then q2 (1 + b % 2000) 1000 else q2 (1 + c % 2000) 1000, fun i hi => ?_, rfl⟩
 have : i = 0 ∨ i = 1 ∨ i = 2 := by omega
 rcases this with rfl | rfl | rfl
 ·exact key a
 ·exact key b
 ·exact key c
theorem rets_white (a b c : Int) (ha : 0 ≤ a ∧ a ≤ 65535) (hb : 0 ≤ b ∧ b ≤ 65535) (hc : 0 ≤ c ∧ c ≤ 65535) (w : World) : ∃ s, adapt.Wh s ∧ Ret w 10 #[.agg #[.int .u16 a, .int .u16 b, .int .u16 c]] (adapt.tri3 s).v := by
 obtain ⟨s, hs, e⟩ := wh_of (a := a) (b := b) (c := c)
 exact ⟨s, hs, fun W _ => e ▸ verdigrisref23.White_ok a b c ha hb hc W⟩
theorem Fr_one : Fr.of (q2 1 1) = Fr.of 1 := by decide +kernel
theorem rets_matrix {m : Nat} (hm : m < 4) {s t : Nat → Rat} (hs : adapt.Wh s) (ht' : adapt.Wh t) (w : World) (ht : Bld.Pow w) (hc : adapt.Cones w) {er : Int} (he : (if adapt.zero3 (adapt.resp m s) then 7 else 0) = er) :
  RetM w 13 #[.int .i64 ((m : Int) + 1), (adapt.tri3 s).v, (adapt.tri3 t).v, (Fr.of 1).v] er (matrix.mk3 (adapt.mG m (adapt.gn m 1 s t))).fr := by
 obtain ⟨h1, h2⟩ := adapt.mat_at hm hs ht' (adapt.Ht.one.mono (by omega : 0 ≤ 10)) (by decide +kernel) (by decide +kernel)
 rw [← h2]
 exact ret_matrix _ _ _ _ er (h1.trans he) w ht hc
theorem rets_adapt {m : Nat} (hm : m < 4) {s t : Nat → Rat} (hs : adapt.Wh s) (ht' : adapt.Wh t) (hz : adapt.zero3 (adapt.resp m s) = false) (va : Value) (w : World) (hv : MatV w va (matrix.mk3 (adapt.mG m (adapt.gn m 1 s t))).fr) (ht : Bld.Pow w) :
  Ret w 20 #[va, (adapt.tri3 s).v] (.tuple #[(adapt.tri3 t).v, .int .i64 0]) := by
 have hk := adapt.mk3_ok (adapt.mG_okq hm (a := 86) (by omega) fun i hi => adapt.gn_ht hm hs ht' (adapt.Ht.one.mono (by omega)) hi)
 obtain ⟨h1, h2⟩ := adapt.adapt_at hk hs (adapt.app_gn hm hz) ht'.ok
 exact ret_adapt va _ _ 0 _ h1 (by rw [if_pos rfl]; exact h2) w hv ht
theorem rets_inverse {m : Nat} (hm : m < 4) {s t : Nat → Rat} (hs : adapt.Wh s) (ht' : adapt.Wh t) (hz : adapt.zero3 (adapt.resp m s) = false) (va : Value) (w : World) (hv : MatV w va (matrix.mk3 (adapt.mG m (adapt.gn m 1 s t))).fr) (ht : Bld.Pow w) {er : Int} (he : (if adapt.zero3 (adapt.resp m t) then 7 else 0) = er) :
  ∃ mi, RetM w 23 #[va] er mi ∧ (er = 0 → mi = (matrix.mk3 (adapt.mG m (adapt.gn m 1 t s))).fr) := by
 have hk := adapt.mk3_ok (adapt.mG_okq hm (a := 86) (by omega) fun i hi => adapt.gn_ht hm hs ht' (adapt.Ht.one.mono (by omega)) hi)
 obtain ⟨h1, h2⟩ := adapt.inv_at hm hs ht' hz
 refine ⟨(matrix.invM (matrix.mk3 (adapt.mG m (adapt.gn m 1 s t)))).fr, fun W hW => ?_, ?_⟩
 ·rw [← he, ← h1]
  exact matrix.Inverse_main va _ W (hv.later hW) hk (ht.later hW)
 ·intro e
  subst e
  cases h : adapt.zero3 (adapt.resp m t) with
  | true => rw [h] at he; cases he
  | false => rw [h2 h]
end Go.Proofs.verdigrislaw25
