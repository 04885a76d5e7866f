/- Lemmas for the proof: part 9 of 12. No condition. -/
import Derived.Test.YtddblpggomphpaaGreatDoorQP08
import Derived.Deep.Cut
set_option linter.unusedVariables false
set_option linter.unusedSimpArgs false
namespace Go.Proofs.matrix
open Go Go.RowKit Go.SW Go.Num Go.Mem Go.Proofs Go.Dec Go.Fra

/-- The rows behind elimination, the pivot. -/
def elimQ (m : RM) : Int × Bool × IM := elim m.length 0 (ext (m.map rtop)) 1 false
def invQ (m : RM) (i c : Nat) : Rat := (((elimQ m).2.2.at i (m.length + c) * ((cden (m.getD c []) : Nat) : Int) : Int) : Rat) / (((elimQ m).1 : Int) : Rat)
def invM (m : RM) : RM := (List.range m.length).map fun i => (List.range m.length).map (invQ m i)
def invE (m : RM) : Int := if (elimQ m).1 = 0 then 7 else if allQ (invM m) then 0 else 6
theorem rtop_fits {m : RM} {n : Nat} (h : m.ok n) : IM.fits (m.map rtop) m.length n 1000 := by
  obtain ⟨h1, h2, h3, h4, h5⟩ := h
  refine ⟨by simp, fun i hi => ?_, fun i j => ?_⟩
  · rw [getD_lt (show i < (m.map rtop).length by simpa using hi)]
    simp only [List.getElem_map]
    have := (h5 m[i] (List.getElem_mem _)).1
    simp [rtop, this]
  · unfold IM.at
    by_cases hi : i < m.length
    · rw [getD_lt (show i < (m.map rtop).length by simpa using hi)]
      simp only [List.getElem_map]
      obtain ⟨k1, k2⟩ := h5 m[i] (List.getElem_mem _)
      exact ctop_sz k2 (by omega) j
    · have e : (m.map rtop).getD i [] = [] := by rw [List.getD_eq_getElem?_getD, List.getElem?_eq_none (by simp; omega)]; rfl
      rw [e]
      simp [sz_zero]
theorem elimQ_sz {m : RM} (h : m.ok m.length) : (elimQ m).2.2.fits m.length (2 * m.length) 16015 ∧ sz 1000000000 (elimQ m).1.natAbs ≤ 16015 := by
  have h1 : sz 1000000000 (1 : Int).natAbs ≤ 1000 := by
    have : sz 1000000000 (1 : Int).natAbs = 1 := by decide +kernel
    omega
  obtain ⟨k1, k2⟩ := elim_fits m.length 0 1000 (ext (m.map rtop)) 1 false (ext_fits (rtop_fits h) (by omega)) h1 (by omega)
  have hg := growE_le (S := 1000) (m := m.length) h.2.1
  exact ⟨k1.mono hg, Nat.le_trans k2 hg⟩
/-- How rows in a block are read. -/
theorem RowsB.read {w : World} {B off n c : Nat} {rs : IM} (h : RowsB w B off n (fun i => rs.getD i [])) {S : Nat} (hf : rs.fits n c S) {i j : Nat} (hi : i < n) (hj : j < c) :
    ∃ b o cc pa l ca, B < w.heap.size ∧ w.cell? ⟨B, off + i, none⟩ = some (.slice (some ⟨b, o, none⟩) c cc) ∧ b < w.heap.size ∧ w.cell? ⟨b, o + j * 2, none⟩ = some (.slice pa l ca) ∧ w.cell? ⟨b, o + j * 2 + 1, none⟩ = some (.bool (decide (rs.at i j < 0))) ∧ Mag w (.slice pa l ca) (rs.at i j).natAbs := by
  obtain ⟨arr, h1, h2⟩ := h
  obtain ⟨v, k1, k2⟩ := h2 i hi
  have hl : (rs.getD i []).length = c := hf.2.1 i hi
  obtain ⟨a, cc, rfl, k4, k5, k6⟩ := k2.read
  obtain ⟨b, o, pa, l, ca, rfl, g1, g2, g3, g4⟩ := k6 j (by rw [hl]; exact hj)
  rw [hl] at k1
  exact ⟨b, o, cc, pa, l, ca, h1.lt, (h1.cell _).trans k1, g1, g2, g3, g4⟩

set_option maxRecDepth 100000 in
set_option maxHeartbeats 4000000 in
theorem Inverse_main (va : Value) (ma : RM) (w : World) (ha : MatV w va ma.fr) (oka : ma.ok ma.length) (ht : Bld.Pow w) :
    Calls Tryz.prog 23 #[va] w (MatPost w (invE ma) (invM ma).fr) := by
  have oka' := oka
  obtain ⟨a1, a4, b1, b4, harows⟩ := oka
  obtain ⟨ba, offa, capa, a0, cap0, rfl, lba, ca0⟩ := MatV.head ha (by omega)
  have hwa : (ma.headD []).length = ma.length := by
    cases ma with
    | nil => simp at a1
    | cons r t => exact (harows r (by simp)).1
  rw [hwa] at ca0
  have HC1 := Lib.hid (fun w' hx => Check_ok _ ma.fr w' (ha.later hx))
  rw [oka'.chk] at HC1
  have HRA := Lib.hid (fun w' hx => read_ok _ ma w' (ha.later hx) a4 (fun r hr => ⟨by have := (harows r hr).1; omega, (harows r hr).2⟩))
  have hfit := rtop_fits oka'
  have hesz := elimQ_sz oka'
  have hext := ext_fits hfit (by omega)
  have HXT := Lib.hid (fun v w' (hx : RowsI w' v (ma.map rtop)) => extended_ok v (ma.map rtop) ma.length w' hx (by simp) hfit.2.1 a1 a4)
  have HEL := Lib.hid (fun B w' (hx : RowsB w' B 0 ma.length (fun i => (ext (ma.map rtop)).getD i [])) => eliminate_ok B 0 ma.length (2 * ma.length) ma.length 1000 (ext (ma.map rtop)) w' hx hext a1 a4 (by omega) (by omega) (by omega) (by omega) (Nat.le_refl _) (by omega))
  obtain ⟨EL, HELQ⟩ : ∃ y, Hid (elimQ ma = y) := ⟨_, Lib.hid rfl⟩
  have hel2 : elim ma.length 0 (ext (ma.map rtop)) 1 false = EL := HELQ.out
  rw [hel2] at HEL
  rw [HELQ.out] at hesz
  obtain ⟨piv, turned, W⟩ := EL
  obtain ⟨E, EE⟩ : ∃ E : Nat → Nat → Rat, E = invQ ma := ⟨_, rfl⟩
  obtain ⟨er, HER⟩ : ∃ y : Int, Hid ((if piv = 0 then 7 else if allQ (invM ma) then 0 else 6) = y) := ⟨_, Lib.hid rfl⟩
  have her : invE ma = er := by
    unfold invE
    rw [HELQ.out]
    exact HER.out
  rw [her]
  have HEE : Hid (∀ i c, ((W.at i (ma.length + c) * ((cden (ma.getD c []) : Nat) : Int) : Int) : Rat) / ((piv : Int) : Rat) = E i c) := Lib.hid fun i c => by
    rw [EE]
    unfold invQ
    rw [HELQ.out]
  have HMQ : Hid (∀ i, i < ma.length → (invM ma).getD i [] = (List.range ma.length).map (E i)) := Lib.hid fun i hi => by
    rw [EE]
    unfold invM
    simp [hi]
  have HML : Hid ((invM ma).length = ma.length) := Lib.hid (by simp [invM])
  obtain ⟨MM, EMM⟩ : ∃ y : RM, Hid (invM ma = y) := ⟨_, Lib.hid rfl⟩
  rw [EMM.out] at HER HMQ HML ⊢
  have HAR := Lib.hid harows
  have HSZ := Lib.hid hesz
  have HT := Lib.hid ht
  obtain ⟨n, hna⟩ : ∃ y, ma.length = y := ⟨_, rfl⟩
  have HNA := Lib.hid hna
  clear ha oka' harows hwa ht EE EMM her hel2 HELQ hfit hesz hext
  rw [hna] at HC1 HRA HXT HEL a1 a4 b1 b4 HMQ HML HAR HSZ HEE ca0 ⊢
  clear hna
  have a0n : 0 < n := by omega
  go_enter Tryz.func23, Tryz.ntmps23
  go_wp2_with fail
  refine (HC1.out _ (Below.refl _ _)).mono ?_
  rintro e v1 ⟨rfl, hc1⟩
  have c1 := (hc1.cell (p := ⟨ba, offa, none⟩) lba).trans ca0
  go_wp2_with fail
  refine (HRA.out _ hc1).mono ?_
  rintro e v2 ⟨vt, rfl, hc2, htab⟩
  obtain ⟨pa1, na1, ca1, pa2, na2, ca2, rfl, hra, hma⟩ := htab
  have HRA1 := Lib.hid hra
  have HMA1 := Lib.hid hma
  have hw2 : Below w.heap.size w v2 := Bt hc1 hc2
  clear hra hma c1
  go_wp2_with fail
  have hx2 : Below v2.heap.size v2 (v2.alloc (.cells #[.slice pa1 na1 ca1, .slice pa2 na2 ca2] 93)) := belA
  refine (HXT.out _ _ (HRA1.out.later hx2)).mono ?_
  rintro e v3 ⟨B, rfl, hBv, hc3, hrb⟩
  have HRB := Lib.hid hrb
  clear hrb
  go_wp2_with fail
  refine (HEL.out _ _ HRB.out).mono ?_
  rintro e v4 ⟨vp, rfl, hN4, hvp, hrb⟩
  have h34 : Below (v2.alloc (.cells #[.slice pa1 na1 ca1, .slice pa2 na2 ca2] 93)).heap.size (v2.alloc (.cells #[.slice pa1 na1 ca1, .slice pa2 na2 ca2] 93)) v4 := Near.toBelow hN4 hc3 hBv
  have h24 : Below v2.heap.size v2 v4 := Bt hx2 h34
  have hx4 := Box.later (Box.new v2 #[.slice pa1 na1 ca1, .slice pa2 na2 ca2] 93) h34
  obtain ⟨paHPV, lHPV, caHPV, rfl, HPV⟩ := hvp; replace HPV := Lib.hid HPV
  replace HRB := Lib.hid hrb
  have HX4 := Lib.hid hx4
  replace HMA1 := Lib.hid (HMA1.out.later h24)
  have hw4 : Below w.heap.size w v4 := Bt hw2 h24
  clear hrb hx4 hN4 hc3 hx2 h34 h24 hc1 hc2 hw2 HRA1 HXT HEL HC1 HRA
  go_wp2_with fail
  have hx5 : Below v4.heap.size v4 (v4.alloc (.cells #[.slice paHPV lHPV caHPV, .bool (decide (piv < 0))] 99)) := belA
  refine (zero_ok _ _ _ (HPV.out.later hx5)).mono ?_
  rintro e v5 ⟨rfl, rfl⟩
  by_cases hp0 : piv = 0
  · have b0 : decide (piv.natAbs = 0) = true := by simp [hp0]
    have her : er = 7 := by rw [← HER.out, if_pos hp0]
    have HE7 := Lib.hid her
    rw [b0]
    clear her hp0 b0
    go_wp2_with fail
    go_ret2
    rw [HE7.out]
    exact MatPost.no (Bt hw4 hx5) (by decide)
  · have b0 : decide (piv.natAbs = 0) = false := by simp [hp0]
    have HP0 := Lib.hid hp0
    have HER2 : Hid ((if allQ MM then 0 else 6) = er) := Lib.hid (by rw [← HER.out, if_neg hp0])
    rw [b0]
    clear hp0 b0
    obtain ⟨csm, hcsm, hmk⟩ := made_mat n (by omega)
    have HCS := Lib.hid hcsm
    clear hcsm
    go_wp2_with fail
    obtain ⟨vb, Evb⟩ : ∃ y, v4.alloc (.cells #[.slice paHPV lHPV caHPV, .bool (decide (piv < 0))] 99) = y := ⟨_, rfl⟩
    rw [Evb] at hx5
    have hM : v4.heap.size + 1 = vb.heap.size := by rw [← Evb]; simp
    have HX6 := Lib.hid (HX4.out.later hx5)
    have HX8 : Hid (Box vb v4.heap.size #[.slice paHPV lHPV caHPV, .bool (decide (piv < 0))] 99) := Lib.hid (by rw [← Evb]; exact boxA)
    rw [Evb, hM]
    have hwb : Below w.heap.size w vb := Bt hw4 hx5
    have HPVb := Lib.hid (HPV.out.later hx5)
    have hrbb : RowsB vb B 0 n (fun i => W.getD i []) := by
      obtain ⟨arr, k1, k2⟩ := HRB.out
      exact ⟨arr, k1.later hx5, fun i hi => by obtain ⟨v, g1, g2⟩ := k2 i hi; exact ⟨v, g1, g2.later hx5⟩⟩
    have HRBb := Lib.hid hrbb
    obtain ⟨hn2, hr2⟩ := MagsV_read (HMA1.out.later hx5)
    rw [List.length_map, HNA.out] at hn2
    replace hn2 := hn2.symm
    subst hn2
    have HR2 := Lib.hid hr2
    have HM := Lib.hid (MFill.start2 (f := fun i => ((List.range n).map (E i)).map Fr.of) (Box.new vb csm 56) HCS.out)
    have h0b : Below vb.heap.size vb (vb.alloc (.cells csm 56)) := belA
    obtain ⟨X6, EX6⟩ : ∃ y, v2.heap.size = y := ⟨_, rfl⟩
    obtain ⟨X8, EX8⟩ : ∃ y, v4.heap.size = y := ⟨_, rfl⟩
    rw [EX6] at HX6 ⊢
    rw [EX8] at HX8 ⊢
    have l6 : X6 < vb.heap.size := HX6.out.lt
    have l8 : X8 < vb.heap.size := HX8.out.lt
    have csz := hwb.size
    clear hr2 hrbb HMA1 HRB HPV HX4 hM hw4 hx5 EX6 EX8 hmk HCS Evb
    obtain ⟨csf, hcsf, hmk⟩ := made_frs n (by omega)
    have HCS := Lib.hid hcsf
    clear hcsf
    go_loopw [45] (fun iv wr => ∃ r : Nat, iv = .int .i64 (r : Int) ∧ r ≤ n ∧ Hid (MFill wr vb.heap.size n r (fun i => ((List.range n).map (E i)).map Fr.of)) ∧ Hid (∀ i, i < r → ∀ c, c < n → okq (E i c) = true) ∧ Below vb.heap.size vb wr) (fun iv _ => n - (intOf iv).toNat)
    case atStart => exact ⟨0, rfl, by omega, HM, Lib.hid (fun i h => by omega), h0b⟩
    case round =>
      clear HM h0b
      obtain ⟨r, rfl, hr, HM, HK, hb⟩ := hrel
      obtain ⟨wo, hwo⟩ : ∃ y, y = wr := ⟨_, rfl⟩
      subst hwo
      have lM := HM.out.lt
      rcases Nat.lt_or_ge r n with hlt | hge
      · have hlt2 : (r : Int) < (n : Int) := by omega
        obtain ⟨⟨y1, cy1⟩, fy⟩ := HM.out.cell hlt
        obtain ⟨arrM, bM, hsz, -⟩ := HM.out
        have HBM := Lib.hid bM
        have hrs : r < arrM.size := by omega
        clear bM hsz
        go_wp2_with fail
        clear cy1 fy
        have hGM : wo.heap.size ≠ vb.heap.size := by omega
        have hMG : vb.heap.size ≠ wo.heap.size := by omega
        have hBn : Box ((wo.setCell ⟨vb.heap.size, r, none⟩ (.slice (some ⟨wo.heap.size, 0, none⟩) n n)).alloc (.cells csf 36 (0, 0))) wo.heap.size csf 36 := Box.new_at (by simp)
        have HF := Lib.hid (show Fill _ wo.heap.size 36 n 0 (FrC fun i => Fr.of (E r i)) from ⟨csf, hBn, HCS.out, fun i hi => by omega⟩)
        have HB := Lib.hid ((HBM.out.set r (.slice (some ⟨wo.heap.size, 0, none⟩) n n)).alloc (.cells csf 36 (0, 0)))
        have HN := Lib.hid (((Near.refl wo vb.heap.size).set r (.slice (some ⟨wo.heap.size, 0, none⟩) n n)).below (w' := (wo.setCell ⟨vb.heap.size, r, none⟩ (.slice (some ⟨wo.heap.size, 0, none⟩) n n)).alloc (.cells csf 36 (0, 0))) belA)
        clear hBn
        go_loopw [58] (fun iv wr => ∃ c : Nat, iv = .int .i64 (c : Int) ∧ c ≤ n ∧ Hid (Fill wr wo.heap.size 36 n c (FrC fun i => Fr.of (E r i))) ∧ Hid (∀ i, i < c → okq (E r i) = true) ∧ Hid (Box wr vb.heap.size (arrM.setIfInBounds r (.slice (some ⟨wo.heap.size, 0, none⟩) n n)) 56) ∧ Hid (Near wo wr vb.heap.size)) (fun iv _ => n - (intOf iv).toNat)
        case atStart => exact ⟨0, rfl, by omega, HF, Lib.hid (fun i h => by omega), HB, HN⟩
        case round =>
          clear HF HB HN
          obtain ⟨c, rfl, hcn, HF, HKc, HB, HN⟩ := hrel
          rcases Nat.lt_or_ge c n with hcl | hcl
          · have hcl2 : (c : Int) < (n : Int) := by omega
            have hbv : Below vb.heap.size vb wr := HN.out.toBelow hb (Nat.le_refl _)
            obtain ⟨b1, o1, cc1, p1, m1, d1, lB, e1, e2, e3, e4, e5⟩ := RowsB.read HRBb.out HSZ.out.1 hlt (show n + c < 2 * n by omega)
            obtain ⟨b2, o2, p2, m2, d2, rfl, f2, f3, f4⟩ := HR2.out c (by rw [List.length_map, HNA.out]; exact hcl)
            simp only [List.getElem_map] at f4
            rw [Nat.zero_add] at e1
            have q0 := (hbv.cell (p := ⟨B, r, none⟩) lB).trans e1
            have q1 := (hbv.cell (p := ⟨b1, o1 + (n + c) * 2, none⟩) e2).trans e3
            have q1b := (hbv.cell (p := ⟨b1, o1 + (n + c) * 2 + 1, none⟩) e2).trans e4
            have q2 := (hbv.cell (p := ⟨b2, o2 + c, none⟩) f2).trans f3
            have x6 := (HX6.out.later hbv).cell
            have x8 := (HX8.out.later hbv).cell
            have G1 := Lib.hid (e5.later hbv)
            have G2 := Lib.hid (f4.later hbv)
            have G3 := Lib.hid (HPVb.out.later hbv)
            have l0 := Nat.lt_of_lt_of_le lB hbv.size
            have l1 := Nat.lt_of_lt_of_le e2 hbv.size
            have l2 := Nat.lt_of_lt_of_le f2 hbv.size
            have z6 := Nat.lt_of_lt_of_le l6 hbv.size
            have z8 := Nat.lt_of_lt_of_le l8 hbv.size
            obtain ⟨j, hj⟩ : ∃ j, n + c = j := ⟨_, rfl⟩
            have ej : (n : Int) + (c : Int) = (j : Int) := by omega
            have hj2 : j < 2 * n := by omega
            have hj3 : (j : Int) < 2 * (n : Int) := by omega
            have hwj : IntKind.i64.wrap (j : Int) = (j : Int) := by rw [IntKind.wrap_i64]; omega
            have hcm : c < ma.length := by rw [HNA.out]; exact hcl
            have hcc := HAR.out ma[c] (List.getElem_mem _)
            have hee := HEE.out r c
            rw [hj, getD_lt hcm] at hee
            rw [hj] at q1 q1b G1
            have HEQ := Lib.hid hee
            have hlc := hcc.1
            have hkc := cden_sz ma[c] hcc.2
            have hk1 := HSZ.out.1.2.2 r j
            have hk2 := HSZ.out.2
            have hsm := sz_absmul (W.at r j) (cden ma[c])
            clear lB e1 e2 e3 e4 e5 f2 f3 f4 hcc hee hj HX6 HX8 HRBb HR2 HPVb
            generalize ma[c] = cc at *
            clear hcm
            generalize W.at r j = x at *
            generalize cden cc = dc at *
            obtain ⟨z, EZ⟩ : ∃ y : Int, Hid (x * ((dc : Nat) : Int) = y) := ⟨_, Lib.hid rfl⟩
            rw [EZ.out] at HEQ hsm
            have KX := Lib.hid (show sz 1000000000 x.natAbs ≤ 549755813888 by omega)
            have KD := Lib.hid (show sz 1000000000 dc ≤ 549755813888 by omega)
            have KZ := Lib.hid (show sz 1000000000 z.natAbs ≤ 549755813888 by omega)
            have KP := Lib.hid (show sz 1000000000 piv.natAbs ≤ 549755813888 by omega)
            clear hlc hkc hk1 hk2 hsm
            have HW := HEQ
            obtain ⟨q, EQ⟩ : ∃ x : Rat, Hid (E r c = x) := ⟨_, Lib.hid rfl⟩
            rw [EQ.out] at HW
            have HPW := Lib.hid (HT.out.later (Bt hwb hbv))
            have lG := HF.out.lt
            have lMr := HB.out.lt
            go_wp2_with fail
            refine wp_region_walk [(.pure, 0), (.pure, 1), (.pure, 2), (.read, 3), (.pure, 4), (.pure, 5), (.pure, 6), (.pure, 7), (.read, 8), (.pure, 9), (.read, 10), (.pure, 11), (.pure, 12), (.read, 13), (.read, 15), (.ext, 14), (.ext, 16), (.pure, 17), (.pure, 18), (.pure, 19), (.alloc #[.string ⟨#[]⟩, .string ⟨#[]⟩] 36, 20), (.fin, 21), (.fin, 22)] (by kernel_rfl) (by kernel_rfl) (allocRuns_of (by kernel_rfl)) (fun _ _ _ _ hd h => And.intro (hd.trans (And.left h)) (And.right h)) ?_
            repeat (first | (refine walk_pure0 rfl rfl (fun J hJ => ?_); go_simp; refine hJ _ ?_; clear hJ J) | (refine walk_load rfl rfl rfl rfl (fun J hJ => ?_); go_simp; refine hJ _ ?_; clear hJ J; try go_simp))
            refine walk_ext rfl rfl (fun w31 hb31 J hJ => ?_); go_simp
            replace G1 := Lib.hid (Mag.carry G1.out magA hb31)
            replace G2 := Lib.hid (Mag.carry G2.out magA hb31)
            replace G3 := Lib.hid (Mag.carry G3.out magA hb31)
            refine ((scaled_ok _ _ x dc _ (IntV.of_neg magA) magA KX.out KD.out).mono (by rw [EZ.out]; exact fun _ _ h => h)).mono ?_
            rintro e v31 ⟨v, rfl, hc31, hv⟩
            obtain ⟨paHz, lHz, caHz, rfl, Hz⟩ := hv; replace Hz := Lib.hid Hz
            replace G1 := Lib.hid (Mag.later G1.out hc31)
            replace G2 := Lib.hid (Mag.later G2.out hc31)
            replace G3 := Lib.hid (Mag.later G3.out hc31)
            refine hJ _ _ hc31 ?_
            clear hJ J
            have hq2 : okq q = true ∨ okq q = false := by cases okq q <;> simp
            rcases hq2 with hq2 | hq2
            · have HWR : Hid (Fr.res (Fra.wr q) = .tuple #[.agg #[.string (Fr.of q).n, .string (Fr.of q).d], .int .i64 0]) := Lib.hid (by unfold Fra.wr; rw [if_pos hq2]; rfl)
              have HOK := Lib.hid hq2
              clear hq2
              obtain ⟨s1, Es1⟩ : ∃ x : ByteArray, Hid ((Fr.of q).n = x) := ⟨_, Lib.hid rfl⟩
              obtain ⟨s2, Es2⟩ : ∃ x : ByteArray, Hid ((Fr.of q).d = x) := ⟨_, Lib.hid rfl⟩
              rw [Es1.out, Es2.out] at HWR
              refine walk_ext rfl rfl (fun w33 hb33 J hJ => ?_); go_simp
              refine ((write_ok _ _ z piv _ (IntV.of_neg magA) (IntV.of_neg magA) HP0.out KZ.out KP.out (HPW.out.later belA)).mono (by rw [HW.out, HWR.out]; exact fun _ _ h => h)).mono ?_
              rintro e v33 ⟨rfl, hc33⟩
              refine hJ _ _ hc33 ?_
              clear hJ J
              repeat (first | (refine walk_pure0 rfl rfl (fun J hJ => ?_); go_simp; refine hJ _ ?_; clear hJ J) | (refine walk_load rfl rfl rfl rfl (fun J hJ => ?_); go_simp; refine hJ _ ?_; clear hJ J; try go_simp))
              refine walk_alloc rfl (fun b20 w17 hw17 hNb20 hltb20 hAb20 hxb20 => ?_); go_simp; replace hxb20 : Box _ _ _ _ := hxb20; have hWb20 : w.heap.size ≤ b20 := (by first | omega | exact Nat.le_trans (Below.size (B := w.heap.size) belA) hNb20)
              refine walk_fin [_, _] rfl (fun w18 hb18 => ?_)
              replace hxb20 := Box.later (hxb20) hb18; replace chxb20 := hxb20.cell; replace fhxb20 := hxb20.free; replace lhxb20 := hxb20.lt
              have hx18 : Below wr.heap.size wr w18 := belA
              have hN17 : wr.heap.size ≤ b20 := hNb20
              replace HF := Lib.hid (HF.out.laterF hx18)
              replace HB := Lib.hid (HB.out.later hx18)
              replace HN := Lib.hid (HN.out.below hx18)
              have ne1 : wo.heap.size ≠ b20 := by omega
              have ne2 : vb.heap.size ≠ b20 := by omega
              have ge1 : wo.heap.size ≤ b20 := by omega
              clear q0 q1 q1b q2 x6 x8 hx18 hNb20 HPW
              go_wp2_with fail
              obtain ⟨w19, E19⟩ : ∃ y, (w18.setCell ⟨b20, 0, none⟩ (.string s1)).setCell ⟨b20, 1, none⟩ (.string s2) = y := ⟨_, rfl⟩
              replace HF := Lib.hid ((HF.out.other (a := ⟨b20, 0, none⟩) (.string s1) ne1).other (a := ⟨b20, 1, none⟩) (.string s2) ne1)
              replace HB := Lib.hid ((HB.out.setOther (a := ⟨b20, 0, none⟩) (.string s1) ne2).setOther (a := ⟨b20, 1, none⟩) (.string s2) ne2)
              replace HN := Lib.hid ((HN.out.setNew ge1 0 (.string s1)).setNew ge1 1 (.string s2))
              have hx17 := (hxb20.set 0 (.string s1)).set 1 (.string s2)
              simp only [List.setIfInBounds_toArray, List.set_cons_zero, List.set_cons_succ] at hx17
              rw [E19] at HF HB HN hx17 ⊢
              clear E19 hxb20 chxb20 fhxb20 lhxb20
              have c17 := hx17.cell
              have l17 := hx17.lt
              have cM := HB.out.cell r
              rw [Array.getElem?_setIfInBounds, if_pos rfl, if_pos hrs] at cM
              have lM9 := HB.out.lt
              refine wp_region_walk [(.pure, 0), (.pure, 1), (.pure, 2), (.read, 3), (.pure, 4), (.read, 5), (.pure, 6), (.fin, 7)] (by kernel_rfl) (by kernel_rfl) (allocRuns_of (by kernel_rfl)) (fun _ _ _ _ hd h => And.intro (hd.trans (And.left h)) (And.right h)) ?_
              repeat (first | (refine walk_pure0 rfl rfl (fun J hJ => ?_); go_simp; refine hJ _ ?_; clear hJ J) | (refine walk_load rfl rfl rfl rfl (fun J hJ => ?_); go_simp; refine hJ _ ?_; clear hJ J; try go_simp))
              refine walk_fin [_] rfl (fun w20 hb20 => ?_)
              have hx20 : Below w19.heap.size w19 w20 := belA
              replace HF := Lib.hid (HF.out.laterF hx20)
              replace HB := Lib.hid (HB.out.later hx20)
              replace HN := Lib.hid (HN.out.below hx20)
              obtain ⟨⟨y1, cy1⟩, ⟨y2, cy2⟩, fy⟩ := HF.out.cells hcl
              have lG20 := HF.out.lt
              clear hb20 hx20 c17 l17 cM lM9 hx17
              go_wp2_with fail
              go_roundw
              case rel =>
                refine ⟨c + 1, by go_num, by omega, Lib.hid (HF.out.step hcl (fun _ _ _ h => h) ⟨?_, ?_⟩), Lib.hid fun i hi => ?_, Lib.hid ((HB.out.setOther _ hMG).setOther _ hMG), Lib.hid ((HN.out.setNew (Nat.le_refl _) _ _).setNew (Nat.le_refl _) _ _)⟩
                · show Value.string s1 = .string (Fr.of (E r c)).n
                  rw [EQ.out, Es1.out]
                · show Value.string s2 = .string (Fr.of (E r c)).d
                  rw [EQ.out, Es2.out]
                · rcases Nat.lt_or_ge i c with h | h
                  · exact HKc.out i h
                  · obtain rfl : i = c := by omega
                    rw [EQ.out]
                    exact HOK.out
              case measure => simp [intOf]; omega
            · have HWR : Hid (Fr.res (Fra.wr q) = .tuple #[.agg #[.string ⟨#[]⟩, .string ⟨#[]⟩], .int .i64 6]) := Lib.hid (wr_big hq2)
              have hbad : allQ MM = false := by
                unfold allQ
                rw [List.all_eq_false]
                refine ⟨MM.getD r [], ?_, ?_⟩
                · rw [getD_lt (show r < MM.length by rw [HML.out]; exact hlt)]
                  exact List.getElem_mem _
                · rw [HMQ.out r hlt]
                  simp only [List.all_map, Bool.not_eq_true]
                  rw [List.all_eq_false]
                  exact ⟨c, List.mem_range.2 hcl, by simp only [Function.comp]; rw [EQ.out, hq2]; simp⟩
              have her : er = 6 := by rw [← HER2.out, if_neg (by rw [hbad]; simp)]
              have HE6 := Lib.hid her
              clear hq2 hbad her
              refine walk_ext rfl rfl (fun w33 hb33 J hJ => ?_); go_simp
              refine ((write_ok _ _ z piv _ (IntV.of_neg magA) (IntV.of_neg magA) HP0.out KZ.out KP.out (HPW.out.later belA)).mono (by rw [HW.out, HWR.out]; exact fun _ _ h => h)).mono ?_
              rintro e v33 ⟨rfl, hc33⟩
              refine hJ _ _ hc33 ?_
              clear hJ J
              repeat (first | (refine walk_pure0 rfl rfl (fun J hJ => ?_); go_simp; refine hJ _ ?_; clear hJ J) | (refine walk_load rfl rfl rfl rfl (fun J hJ => ?_); go_simp; refine hJ _ ?_; clear hJ J; try go_simp))
              refine walk_alloc rfl (fun b20 w17 hw17 hNb20 hltb20 hAb20 hxb20 => ?_); go_simp; replace hxb20 : Box _ _ _ _ := hxb20; have hWb20 : w.heap.size ≤ b20 := (by first | omega | exact Nat.le_trans (Below.size (B := w.heap.size) belA) hNb20)
              refine walk_fin [_, _] rfl (fun w18 hb18 => ?_)
              replace hxb20 := Box.later (hxb20) hb18; replace chxb20 := hxb20.cell; replace fhxb20 := hxb20.free; replace lhxb20 := hxb20.lt
              have hx18 : Below w.heap.size w w18 := Bt (Bt hwb hbv) belA
              have hN17 : wr.heap.size ≤ b20 := hNb20
              have hwr := (Bt hwb hbv).size
              clear q0 q1 q1b q2 x6 x8
              go_wp2_with fail
              go_ret2
              rw [HE6.out]
              exact MatPost.no ((hx18.setCell (by simp; omega) _).setCell (by simp; omega) _) (by decide)
          · have hcn2 : n = c := by omega
            subst hcn2
            go_wp2_with fail
            go_roundw
            case rel =>
              have hbv : Below vb.heap.size vb wr := HN.out.toBelow hb (Nat.le_refl _)
              refine ⟨r + 1, by go_num, by omega, Lib.hid (HM.out.step (v := .slice (some ⟨wo.heap.size, 0, none⟩) n n) hlt HN.out (fun arr hA => ?_) ?_), Lib.hid fun i hi c hc => ?_, hbv⟩
              · have hAM : arr = arrM := Fra.Box.uniq hA HBM.out
                rw [hAM]
                exact HB.out
              · refine Fill.frs (HF.out.congrF fun i hi => ?_) (by simp) (by omega)
                simp [hi]
              · rcases Nat.lt_or_ge i r with h | h
                · exact HK.out i h c hc
                · obtain rfl : i = r := by omega
                  exact HKc.out c hc
            case measure => simp [intOf]; omega
      · have hrn : n = r := by omega
        subst hrn
        have hall : allQ MM = true := by
          unfold allQ
          rw [List.all_eq_true]
          intro x hx
          obtain ⟨i, hi, rfl⟩ := List.getElem_of_mem hx
          rw [HML.out] at hi
          have e := HMQ.out i hi
          rw [getD_lt (show i < MM.length by rw [HML.out]; exact hi)] at e
          rw [e, List.all_eq_true]
          intro q hq
          obtain ⟨c, hc, rfl⟩ := List.mem_map.1 hq
          exact HK.out i hi c (List.mem_range.1 hc)
        have her : er = 0 := by rw [← HER2.out, if_pos hall]
        have hmv : MatV wo (.slice (some ⟨vb.heap.size, 0, none⟩) n n) MM.fr := by
          have e1 : MM.fr.length = n := by unfold RM.fr; rw [List.length_map]; exact HML.out
          have : MatV wo (.slice (some ⟨vb.heap.size, 0, none⟩) MM.fr.length MM.fr.length) MM.fr := by
            refine MFill.matV ?_ (by omega)
            rw [e1]
            obtain ⟨arr, k1, k2, k3⟩ := HM.out
            refine ⟨arr, k1, k2, fun i hi => ?_⟩
            have e2 : MM.fr.getD i [] = ((List.range n).map (E i)).map Fr.of := by
              rw [← HMQ.out i hi]
              simp [RM.fr, show i < List.length MM by rw [HML.out]; exact hi]
            show ∃ v, arr[i]? = some v ∧ Frs wo 36 v (MM.fr.getD i [])
            rw [e2]
            exact k3 i hi
          rw [e1] at this
          exact this
        have HMV := Lib.hid hmv
        have HE0 := Lib.hid her
        clear hall hmv her
        go_wp2_with fail
        go_ret2
        rw [HE0.out]
        exact MatPost.yes (Bt hwb hb) HMV.out
end Go.Proofs.matrix
namespace Go.Proofs.matrix
open Go Go.RowKit Go.SW Go.Num Go.Mem Go.Proofs Go.Dec Go.Fra

def bprod (m : RM) : Nat → Nat
  | 0 => 1
  | k + 1 => bprod m k * cden (m.getD k [])
def detT (m : RM) : Int := if (elim m.length 0 (m.map rtop) 1 false).2.1 then -(elim m.length 0 (m.map rtop) 1 false).1 else (elim m.length 0 (m.map rtop) 1 false).1
def detQ (m : RM) : Rat := ((detT m : Int) : Rat) / ((bprod m m.length : Nat) : Rat)
theorem bprod_pos (m : RM) : ∀ k, 0 < bprod m k
  | 0 => by simp [bprod]
  | k + 1 => Nat.mul_pos (bprod_pos m k) (cden_facts _).1
theorem bprod_sz {m : RM} {n : Nat} (h : m.ok n) : ∀ k, k ≤ m.length → sz 1000000000 (bprod m k) ≤ 300 * k + 1
  | 0, _ => by
    have : sz 1000000000 1 = 1 := by decide +kernel
    simp [bprod, this]
  | k + 1, hk => by
    have h1 := bprod_sz h k (by omega)
    have h2 := sz_mul (B := 1000000000) (by omega) (bprod m k) (cden (m.getD k []))
    have h3 := h.2.2.2.2 m[k] (List.getElem_mem _)
    have h4 := cden_sz m[k] h3.2
    have h5 := h.2.2.2.1
    rw [getD_lt (show k < m.length by omega)] at h2
    simp only [bprod]
    rw [getD_lt (show k < m.length by omega)]
    have := h3.1
    omega
theorem RowsI_B {w : World} {v : Value} {rs : IM} (h : RowsI w v rs) (h0 : 0 < rs.length) :
    ∃ b off cap, v = .slice (some ⟨b, off, none⟩) rs.length cap ∧ rs.length ≤ cap ∧ cap ≤ 9223372036854775807 ∧ b < w.heap.size ∧ RowsB w b off rs.length (fun i => rs.getD i []) := by
  obtain ⟨rv, hR, hl, hF⟩ := h
  rcases hR.cases with ⟨rfl, rfl⟩ | ⟨b, off, cap, arr, rfl, k1, k2, k3, k4⟩
  · simp at hl; omega
  · refine ⟨b, off, cap, by rw [hl], by omega, k2, k3.lt, arr, k3, fun i hi => ?_⟩
    have hi2 : i < rv.length := by omega
    refine ⟨rv[i], k4 i hi2, ?_⟩
    simp only
    rw [getD_lt hi]
    exact hF i hi hi2
theorem MagsV.near {w w' : World} {M : Nat} {v : Value} {ds : List Nat} (h : MagsV w v ds) (k : Near w w' M) (hM : IsT w M 103) : MagsV w' v ds := by
  obtain ⟨cs, hM⟩ := hM
  have row : ∀ {T : TypeId} {v : Value} {xs : List Value}, T ≠ 103 → Row w T v xs → Row w' T v xs := fun hT h => by
    obtain ⟨a, cap, h1, h2, h3, h4, h5⟩ := h
    refine ⟨a, cap, h1, h2, h3, h4, fun ad had => ?_⟩
    obtain ⟨h6, arr, h7, h8⟩ := h5 ad had
    have h7' : Box w ad.block arr _ := h7
    exact ⟨h6, arr, k.box h7' (h7'.ne hM hT), h8⟩
  obtain ⟨rs, h1, h2⟩ := h
  exact ⟨rs, row (by decide) h1, h2.mono fun _ _ h => row (by decide) h⟩

set_option maxRecDepth 100000 in
set_option maxHeartbeats 4000000 in
theorem Det_main (va : Value) (ma : RM) (w : World) (ha : MatV w va ma.fr) (oka : ma.ok ma.length) (ht : Bld.Pow w) :
    Calls Tryz.prog 28 #[va] w (fun e w' => e = .returned (Fr.res (Fra.wr (detQ ma))) ∧ Below w.heap.size w w') := by
  have oka' := oka
  obtain ⟨a1, a4, b1, b4, harows⟩ := oka
  obtain ⟨ba, offa, capa, a0, cap0, rfl, lba, ca0⟩ := MatV.head ha (by omega)
  have hwa : (ma.headD []).length = ma.length := by
    cases ma with
    | nil => simp at a1
    | cons r t => exact (harows r (by simp)).1
  rw [hwa] at ca0
  have HC1 := Lib.hid (fun w' hx => Check_ok _ ma.fr w' (ha.later hx))
  rw [oka'.chk] at HC1
  have HRA := Lib.hid (fun w' hx => read_own _ ma w' (ha.later hx) a4 (fun r hr => ⟨by have := (harows r hr).1; omega, (harows r hr).2⟩))
  have hfit := rtop_fits oka'
  have h1sz : sz 1000000000 (1 : Int).natAbs ≤ 1000 := by
    have : sz 1000000000 (1 : Int).natAbs = 1 := by decide +kernel
    omega
  have hesz := (elim_fits ma.length 0 1000 (ma.map rtop) 1 false hfit h1sz (by omega)).2
  have hg := growE_le (S := 1000) (m := ma.length) a4
  have HEL := Lib.hid (fun B off cap w' (hx : RowsB w' B off ma.length (fun i => (ma.map rtop).getD i [])) (h1 : ma.length ≤ cap) (h2 : cap ≤ 9223372036854775807) => eliminate_ok B off ma.length ma.length cap 1000 (ma.map rtop) w' hx hfit a1 a4 (Nat.le_refl _) (by omega) (by omega) (by omega) h1 h2)
  have hdt : detT ma = if (elim ma.length 0 (ma.map rtop) 1 false).2.1 then -(elim ma.length 0 (ma.map rtop) 1 false).1 else (elim ma.length 0 (ma.map rtop) 1 false).1 := rfl
  have hdq : detQ ma = ((detT ma : Int) : Rat) / ((bprod ma ma.length : Nat) : Rat) := rfl
  obtain ⟨EL, HELQ⟩ : ∃ y, Hid (elim ma.length 0 (ma.map rtop) 1 false = y) := ⟨_, Lib.hid rfl⟩
  rw [HELQ.out] at HEL hesz hdt
  obtain ⟨piv, turned, W⟩ := EL
  have HSP := Lib.hid (show sz 1000000000 piv.natAbs ≤ 549755813888 by have h := hesz; simp only at h; omega)
  have HDT : Hid (detT ma = if turned then -piv else piv) := Lib.hid hdt
  have HBP := Lib.hid (bprod_sz oka')
  have HB0 := Lib.hid (bprod_pos ma)
  have HBS : Hid (∀ k, bprod ma k * cden (ma.getD k []) = bprod ma (k + 1)) := Lib.hid fun k => rfl
  have HCS : Hid (∀ k, k < ma.length → sz 1000000000 (cden (ma.getD k [])) ≤ 1099511627776) := Lib.hid fun k hk => by
    rw [getD_lt hk]
    have h3 := harows ma[k] (List.getElem_mem _)
    have h4 := cden_sz ma[k] h3.2
    have := h3.1
    omega
  have HAR := Lib.hid harows
  have HT := Lib.hid ht
  obtain ⟨q, HQ⟩ : ∃ y, Hid (detQ ma = y) := ⟨_, Lib.hid rfl⟩
  rw [HQ.out] at hdq ⊢
  have HDQ := Lib.hid hdq
  obtain ⟨R, HWR⟩ : ∃ y, Hid (Fr.res (Fra.wr q) = y) := ⟨_, Lib.hid rfl⟩
  rw [HWR.out]
  obtain ⟨n, hna⟩ : ∃ y, ma.length = y := ⟨_, rfl⟩
  have HNA := Lib.hid hna
  clear ha oka' harows hwa ht hdt hdq hesz hfit hg h1sz HELQ
  rw [hna] at HC1 HRA HEL a1 a4 b1 b4 HDQ HBP HCS ca0 ⊢
  clear hna
  have a0n : 0 < n := by omega
  have hmf : ∀ (fn : Fn) (first cap : Array Value) (w : World), (Instr.makeFunc fn first cap).run Tryz.prog w = .ok (.func fn first cap) w := fun _ _ _ _ => rfl
  go_enter Tryz.func28, Tryz.ntmps28
  go_wp2_with fail
  obtain ⟨w0, Ew0⟩ : ∃ y, w.alloc (.cells #[.string ⟨#[]⟩, .string ⟨#[]⟩] 36) = y := ⟨_, rfl⟩
  have hw0 : Below w.heap.size w w0 := by rw [← Ew0]; exact belA
  have BR : Box w0 w.heap.size #[.string ⟨#[]⟩, .string ⟨#[]⟩] 36 := by rw [← Ew0]; exact boxA
  rw [Ew0]
  clear Ew0
  refine (HC1.out _ hw0).mono ?_
  rintro e v1 ⟨rfl, hc1⟩
  replace BR := BR.later hc1
  have hw1 : Below w.heap.size w v1 := Bt hw0 hc1
  have c1 := (hw1.cell (p := ⟨ba, offa, none⟩) lba).trans ca0
  go_wp2_with fail
  refine (HRA.out _ hw1).mono ?_
  rintro e v2 ⟨vt, rfl, hc2, htab, hfr⟩
  obtain ⟨pa1, na1, ca1, pa2, na2, ca2, rfl, hra, hma⟩ := htab
  obtain ⟨B, offB, capB, e1, g1, g2, lB, hrb⟩ := RowsI_B hra (by rw [List.length_map, HNA.out]; exact a0n)
  rw [List.length_map, HNA.out] at e1 g1 hrb
  simp only [Value.slice.injEq] at e1
  obtain ⟨e1, e2, e3⟩ := e1
  replace e2 := e2.symm
  subst e1 e2 e3
  have hBv : v1.heap.size ≤ B := hfr _ _ _ _ rfl
  have BR1 := BR
  replace BR := BR.later hc2
  have HRB := Lib.hid hrb
  have HMA := Lib.hid hma
  have hw2 : Below w.heap.size w v2 := Bt hw1 hc2
  have hs1 := hw1.size
  have lBR := BR.lt
  have isB : IsT v2 B 103 := by obtain ⟨arr, k, -⟩ := hrb; exact k.isT
  clear hra hma hrb hfr c1
  go_wp2_with fail
  have hx2 : Below v2.heap.size v2 (v2.alloc (.cells #[.slice (some ⟨B, offB, none⟩) n ca1, .slice pa2 na2 ca2] 93)) := belA
  have hrb2 : RowsB (v2.alloc (.cells #[.slice (some ⟨B, offB, none⟩) n ca1, .slice pa2 na2 ca2] 93)) B offB n (fun i => (ma.map rtop).getD i []) := by
    obtain ⟨arr, k1, k2⟩ := HRB.out
    exact ⟨arr, k1.later hx2, fun i hi => by obtain ⟨v, g1, g2⟩ := k2 i hi; exact ⟨v, g1, g2.later hx2⟩⟩
  refine (HEL.out _ _ _ _ hrb2 g1 g2).mono ?_
  rintro e v3 ⟨vp, rfl, hN3, hvp, -⟩
  have h13 : Below v1.heap.size v1 v3 := Near.toBelow hN3 (Bt hc2 hx2) hBv
  have hX5 : Box v3 v2.heap.size #[.slice (some ⟨B, offB, none⟩) n ca1, .slice pa2 na2 ca2] 93 := Near.box hN3 (Box.new v2 _ _) (by omega)
  have hma3 := MagsV.near (HMA.out.later hx2) hN3 (isB.later hx2)
  have hw3 : Below w.heap.size w v3 := Bt hw1 h13
  replace BR := BR1.later h13
  replace lBR := BR.lt
  obtain ⟨paHPV, lHPV, caHPV, rfl, HPV⟩ := hvp; replace HPV := Lib.hid HPV
  obtain ⟨hn2, hr2⟩ := MagsV_read hma3
  rw [List.length_map, HNA.out] at hn2
  replace hn2 := hn2.symm
  subst hn2
  have HR2 := Lib.hid hr2
  have hs3 := hw3.size
  obtain ⟨X5, EX5⟩ : ∃ y, v2.heap.size = y := ⟨_, rfl⟩
  rw [EX5] at hX5 ⊢
  have l5 : X5 < v3.heap.size := hX5.lt
  have HX5 := Lib.hid hX5
  have HBR := Lib.hid BR
  obtain ⟨dt, Edt⟩ : ∃ y, Hid (detT ma = y) := ⟨_, Lib.hid rfl⟩
  rw [Edt.out] at HDT HDQ
  clear hx2 hrb2 hN3 hma3 hr2 isB HMA HRB HEL BR1 BR hX5 hBv lB lBR EX5 h13 hw2 hw1 hw0 hc1 hc2 HC1 HRA hs1 Edt hmf g1 g2
  go_upto_if 36 with fail
  go_cut [] from 36 (fun wx => ∃ (pa : Option Addr) (l ca : Nat), Hid (Box wx v3.heap.size #[.slice pa l ca, .bool (decide (dt < 0))] 99) ∧ Hid (Mag wx (.slice pa l ca) dt.natAbs) ∧ Below v3.heap.size v3 wx)
  case first =>
    have hx3 : Below v3.heap.size v3 (v3.alloc (.cells #[.slice paHPV lHPV caHPV, .bool (decide (piv < 0))] 99)) := belA
    have hb3 := Box.new v3 #[.slice paHPV lHPV caHPV, .bool (decide (piv < 0))] 99
    replace HPV := Lib.hid (HPV.out.later hx3)
    rcases turned with _ | _
    · have hd : dt = piv := HDT.out
      have HD := Lib.hid hd
      clear hd
      go_wp2_with fail
      go_meet
      case rel =>
        rw [HD.out]
        exact ⟨_, _, _, Lib.hid hb3, HPV, hx3⟩
    · have hd : dt = -piv := HDT.out
      have HD := Lib.hid hd
      clear hd
      go_wp2_with fail
      refine ((opposite_ok _ piv _ (IntV.of_neg HPV.out)).mono (by rw [← HD.out]; exact fun _ _ h => h)).mono ?_
      rintro e v4 ⟨v, rfl, hc4, hv⟩
      obtain ⟨paHD2, lHD2, caHD2, rfl, HD2⟩ := hv; replace HD2 := Lib.hid HD2
      have hb4 := hb3.later hc4
      have cb4 := hb4.cell
      have fb4 := hb4.free
      have is4 := hb4.isT
      go_wp2_with fail
      go_meet
      case rel =>
        exact ⟨_, _, _, Lib.hid ((hb4.set 0 _).set 1 _), Lib.hid ((HD2.out.setT is4 (by decide)).setT is4.setCell (by decide)), ((Bt hx3 hc4).setCell (Nat.le_refl _) _).setCell (Nat.le_refl _) _⟩
  case rest =>
    obtain ⟨pa, l, ca, HP7, HM7, hb3⟩ := hcut
    have hm9 : Mag (wc.alloc (.cells #[.int .u32 1] 113)) (.slice (some ⟨wc.heap.size, 0, none⟩) 1 1) 1 := Mag.lit (d := 1) (by omega) (by omega)
    have HM9 := Lib.hid hm9
    clear hm9
    have c5 := (HX5.out.later hb3).cell
    have l5c := (HX5.out.later hb3).lt
    go_wp2_with fail
    obtain ⟨v5, Ev5⟩ : ∃ y, wc.alloc (.cells #[.int .u32 1] 113) = y := ⟨_, rfl⟩
    have h35 : Below v3.heap.size v3 v5 := by rw [← Ev5]; exact Bt hb3 belA
    have h45 : Below wc.heap.size wc v5 := by rw [← Ev5]; exact belA
    replace HP7 := Lib.hid (HP7.out.later h45)
    replace HM7 := Lib.hid (HM7.out.later h45)
    rw [Ev5] at HM9 ⊢
    clear Ev5 c5 l5c hb3 h45
    go_loopw [43, 9] (fun iv bv wr => ∃ (k : Nat) (pb : Option Addr) (lb cb : Nat), iv = .int .i64 (k : Int) ∧ bv = .slice pb lb cb ∧ k ≤ n ∧ Hid (Mag wr (.slice pb lb cb) (bprod ma k)) ∧ Below v5.heap.size v5 wr) (fun iv _ _ => n - (intOf iv).toNat)
    case atStart => exact ⟨0, _, _, _, rfl, rfl, by omega, HM9, Below.refl _ _⟩
    case round =>
      obtain ⟨k, pb, lb, cb, rfl, rfl, hk, HMB, hb⟩ := hrel
      rcases Nat.lt_or_ge k n with hlt | hge
      · have hlt2 : (k : Int) < (n : Int) := by omega
        obtain ⟨b2, o2, p2, m2, d2, rfl, f2, f3, f4⟩ := HR2.out k (by rw [List.length_map, HNA.out]; exact hlt)
        simp only [List.getElem_map] at f4
        have h3r : Below v3.heap.size v3 wr := Bt h35 hb
        have q2 := (h3r.cell (p := ⟨b2, o2 + k, none⟩) f2).trans f3
        have l2 := Nat.lt_of_lt_of_le f2 h3r.size
        have G2 := Lib.hid (f4.later h3r)
        have hgd := getD_lt (d := []) (show k < ma.length by rw [HNA.out]; exact hlt)
        rw [← hgd] at G2
        have K1 := Lib.hid (Nat.le_trans (HBP.out k (by omega)) (show 300 * k + 1 ≤ 1099511627776 by omega))
        have K2 := Lib.hid (HCS.out k hlt)
        have HBK := Lib.hid (HBS.out k)
        clear f2 f3 f4 hgd HR2
        generalize cden (ma.getD k []) = dc at *
        go_wp2_with fail
        refine ((times_ok _ _ (bprod ma k) dc _ HMB.out G2.out K1.out K2.out).mono (by rw [HBK.out]; exact fun _ _ h => h)).mono ?_
        rintro e v6 ⟨v, rfl, hc6, hv⟩
        obtain ⟨paH6, lH6, caH6, rfl⟩ := hv.slice; have H6 := Lib.hid hv; clear hv
        go_wp2_with fail
        go_roundw
        case rel => exact ⟨k + 1, _, _, _, by go_num, rfl, by omega, H6, Bt hb hc6⟩
        case measure => simp [intOf]; omega
      · have hkn : n = k := by omega
        subst hkn
        have h3r : Below v3.heap.size v3 wr := Bt h35 hb
        have hP7 := HP7.out.later hb
        have c7 := hP7.cell
        have l7 := hP7.lt
        replace HM7 := Lib.hid (HM7.out.later hb)
        have HBRr := Lib.hid (HBR.out.later h3r)
        have hD0 := HB0.out n
        have hDZ := HBP.out n (Nat.le_refl _)
        generalize bprod ma n = D at *
        have SD : Hid (sgd D false = ((D : Nat) : Int)) := Lib.hid rfl
        have KD : Hid (sz 1000000000 ((D : Nat) : Int).natAbs ≤ 549755813888) := Lib.hid (by rw [Int.natAbs_natCast]; omega)
        have ND : Hid (((D : Nat) : Int) ≠ 0) := Lib.hid (by omega)
        have HDQ2 : Hid (((dt : Int) : Rat) / ((((D : Nat) : Int)) : Rat) = q) := Lib.hid (by rw [Rat.intCast_natCast]; exact HDQ.out.symm)
        have KT : Hid (sz 1000000000 dt.natAbs ≤ 549755813888) := Lib.hid (by
          rw [HDT.out]
          split
          · rw [Int.natAbs_neg]; exact HSP.out
          · exact HSP.out)
        have HPW := Lib.hid (HT.out.later (Bt hw3 h3r))
        clear hD0 hDZ
        have hq2 : okq q = true ∨ okq q = false := by cases okq q <;> simp
        rcases hq2 with hq2 | hq2
        · have HWR2 : Hid (R = .tuple #[.agg #[.string (Fr.of q).n, .string (Fr.of q).d], .int .i64 0]) := Lib.hid (by rw [← HWR.out]; unfold Fra.wr; rw [if_pos hq2]; rfl)
          clear hq2
          obtain ⟨s1, Es1⟩ : ∃ x : ByteArray, Hid ((Fr.of q).n = x) := ⟨_, Lib.hid rfl⟩
          obtain ⟨s2, Es2⟩ : ∃ x : ByteArray, Hid ((Fr.of q).d = x) := ⟨_, Lib.hid rfl⟩
          rw [Es1.out, Es2.out] at HWR2
          go_wp2_with fail
          refine wp_region_walk [(.read, 0), (.pure, 1), (.ext, 2), (.ext, 3), (.pure, 4), (.pure, 5), (.fin, 6), (.fin, 7)] (by kernel_rfl) (by kernel_rfl) (allocRuns_of (by kernel_rfl)) (fun _ _ _ _ hd h => And.intro (hd.trans (And.left h)) (And.right h)) ?_
          repeat (first | (refine walk_pure0 rfl rfl (fun J hJ => ?_); go_simp; refine hJ _ ?_; clear hJ J) | (refine walk_load rfl rfl rfl rfl (fun J hJ => ?_); go_simp; refine hJ _ ?_; clear hJ J; try go_simp))
          refine walk_ext rfl rfl (fun w31 hb31 J hJ => ?_); go_simp
          replace HMB := Lib.hid (Mag.carry HMB.out magA hb31)
          replace HM7 := Lib.hid (Mag.carry HM7.out magA hb31)
          refine ((signed_ok _ D false _ magA).mono (by rw [SD.out]; exact fun _ _ h => h)).mono ?_
          rintro e v31 ⟨v, rfl, hc31, hv⟩
          obtain ⟨paHs, lHs, caHs, rfl, Hs⟩ := hv; replace Hs := Lib.hid Hs
          replace HMB := Lib.hid (Mag.later HMB.out hc31)
          replace HM7 := Lib.hid (Mag.later HM7.out hc31)
          refine hJ _ _ hc31 ?_
          clear hJ J
          refine walk_ext rfl rfl (fun w32 hb32 J hJ => ?_); go_simp
          refine ((write_ok _ _ dt ((D : Nat) : Int) _ (IntV.of_neg magA) (IntV.of_neg magA) ND.out KT.out KD.out (HPW.out.later belA)).mono (by rw [HDQ2.out, HWR.out, HWR2.out]; exact fun _ _ h => h)).mono ?_
          rintro e v32 ⟨rfl, hc32⟩
          refine hJ _ _ hc32 ?_
          clear hJ J
          repeat (first | (refine walk_pure0 rfl rfl (fun J hJ => ?_); go_simp; refine hJ _ ?_; clear hJ J) | (refine walk_load rfl rfl rfl rfl (fun J hJ => ?_); go_simp; refine hJ _ ?_; clear hJ J; try go_simp))
          refine walk_fin [_, _] rfl (fun w9 hb9 => ?_)
          have hx9 : Below wr.heap.size wr w9 := belA
          have hbr := HBRr.out.later hx9
          have cbr := hbr.cell
          have fbr := hbr.free
          go_wp2_with fail
          refine ret_ct rfl rfl ((hbr.set 0 _).set 1 _) Tryz.underlying36 rfl (by kernel_rfl) ?_
          exact ⟨by rw [HWR2.out]; rfl, ((Bt (Bt hw3 h3r) hx9).setCell (by simp) _).setCell (by simp) _⟩
        · have HWR2 : Hid (R = .tuple #[.agg #[.string ⟨#[]⟩, .string ⟨#[]⟩], .int .i64 6]) := Lib.hid (by rw [← HWR.out]; exact wr_big hq2)
          clear hq2
          go_wp2_with fail
          refine wp_region_walk [(.read, 0), (.pure, 1), (.ext, 2), (.ext, 3), (.pure, 4), (.pure, 5), (.fin, 6), (.fin, 7)] (by kernel_rfl) (by kernel_rfl) (allocRuns_of (by kernel_rfl)) (fun _ _ _ _ hd h => And.intro (hd.trans (And.left h)) (And.right h)) ?_
          repeat (first | (refine walk_pure0 rfl rfl (fun J hJ => ?_); go_simp; refine hJ _ ?_; clear hJ J) | (refine walk_load rfl rfl rfl rfl (fun J hJ => ?_); go_simp; refine hJ _ ?_; clear hJ J; try go_simp))
          refine walk_ext rfl rfl (fun w31 hb31 J hJ => ?_); go_simp
          replace HMB := Lib.hid (Mag.carry HMB.out magA hb31)
          replace HM7 := Lib.hid (Mag.carry HM7.out magA hb31)
          refine ((signed_ok _ D false _ magA).mono (by rw [SD.out]; exact fun _ _ h => h)).mono ?_
          rintro e v31 ⟨v, rfl, hc31, hv⟩
          obtain ⟨paHs, lHs, caHs, rfl, Hs⟩ := hv; replace Hs := Lib.hid Hs
          replace HMB := Lib.hid (Mag.later HMB.out hc31)
          replace HM7 := Lib.hid (Mag.later HM7.out hc31)
          refine hJ _ _ hc31 ?_
          clear hJ J
          refine walk_ext rfl rfl (fun w32 hb32 J hJ => ?_); go_simp
          refine ((write_ok _ _ dt ((D : Nat) : Int) _ (IntV.of_neg magA) (IntV.of_neg magA) ND.out KT.out KD.out (HPW.out.later belA)).mono (by rw [HDQ2.out, HWR.out, HWR2.out]; exact fun _ _ h => h)).mono ?_
          rintro e v32 ⟨rfl, hc32⟩
          refine hJ _ _ hc32 ?_
          clear hJ J
          repeat (first | (refine walk_pure0 rfl rfl (fun J hJ => ?_); go_simp; refine hJ _ ?_; clear hJ J) | (refine walk_load rfl rfl rfl rfl (fun J hJ => ?_); go_simp; refine hJ _ ?_; clear hJ J; try go_simp))
          refine walk_fin [_, _] rfl (fun w9 hb9 => ?_)
          have hx9 : Below wr.heap.size wr w9 := belA
          have hbr := HBRr.out.later hx9
          have cbr := hbr.cell
          have fbr := hbr.free
          go_wp2_with fail
          refine ret_ct rfl rfl ((hbr.set 0 _).set 1 _) Tryz.underlying36 rfl (by kernel_rfl) ?_
          exact ⟨by rw [HWR2.out]; rfl, ((Bt (Bt hw3 h3r) hx9).setCell (by simp) _).setCell (by simp) _⟩
end Go.Proofs.matrix
