/- Lemmas for the proof. No condition. -/
import Derived.Test.YtfhappbmgghgdaaGreatDoorT01
set_option linter.unusedVariables false
set_option linter.unusedSimpArgs false
namespace Go.Proofs.verdigrislaw05
open Go Go.RowKit Go.SW Go.Num Go.Mem Go.Proofs Go.Dec Go.Fra Go.Proofs.matrix Go.Proofs.verdigrisref05
/-- Transpose returns the matrix R of n rows. -/
def TrC (A : List (List Fr)) (n : Nat) (R : List (List Fr)) : Prop := ∀ a W, MatV W a A → Calls Tryz.prog 21 #[a] W (YesN W n R)
def LiC (w : World) (d : Value) (n : Nat) (L : List Fr) : Prop := ∀ W, Below w.heap.size w W → Calls Tryz.prog 17 #[d, .int .i64 (n : Int)] W (fun e w' => ∃ a c, e = .returned (.slice a n c) ∧ Below W.heap.size W w' ∧ Frs w' 59 (.slice a n c) L)
/-- The first row, the first element. -/
theorem first_row {w : World} {v : Value} {m : List (List Fr)} {k : Nat} (h : MatV w v m) (h0 : 0 < m.length) (hk : (m.headD []).length = k) : ∃ b o c a' c', v = .slice (some ⟨b, o, none⟩) m.length c ∧ b < w.heap.size ∧ w.cell? ⟨b, o, none⟩ = some (.slice a' k c') ∧ Frs w 59 (.slice a' k c') (m.headD []) := by
 obtain ⟨rs, hR, hl, hF⟩ := h
 rcases hR.cases with ⟨rfl, h1⟩ | ⟨b, o, c, arr, rfl, -, -, h3, h4⟩
 ·rw [h1] at hl; simp at hl; omega
 ·have i0 : 0 < rs.length := by omega
  have hf := hF 0 i0 h0
  obtain ⟨a', c', he, -⟩ := hf.read
  have e : m.headD [] = m[0] := by cases m with | nil => simp at h0 | cons x t => rfl
  rw [e] at hk ⊢
  rw [hk] at he
  have hx := (h3.cell o).trans (h4 0 i0)
  rw [he] at hx hf
  exact ⟨b, o, c, a', c', by rw [hl], h3.lt, hx, hf⟩
theorem first_frac {w : World} {T : TypeId} {a : Option Addr} {n c : Nat} {l : List Fr} {s t : ByteArray} (h : Frs w T (.slice a n c) l) (h0 : 0 < l.length) (he : l.headD Fr.no = ⟨s, t⟩) : ∃ b o, a = some ⟨b, o, none⟩ ∧ b < w.heap.size ∧ w.cell? ⟨b, o, none⟩ = some (.string s) ∧ w.cell? ⟨b, o + 1, none⟩ = some (.string t) := by
 obtain ⟨a', c', hv, -, -, hr⟩ := h.read
 cases hv
 obtain ⟨b, o, rfl, lb, h1, h2⟩ := hr 0 h0
 have e : l.headD Fr.no = l[0] := by cases l with | nil => simp at h0 | cons x t => rfl
 rw [e] at he
 rw [he] at h1 h2
 exact ⟨b, o, rfl, lb, by simpa using h1, by simpa using h2⟩
/-- A row's head, a fraction, in memory. -/
def RowAt (w : World) (b o : Nat) (a : Option Addr) (k c : Nat) : Prop := b < w.heap.size ∧ w.cell? ⟨b, o, none⟩ = some (.slice a k c)
theorem RowAt.later {w w' : World} {b o k c : Nat} {a : Option Addr} (h : RowAt w b o a k c) (hb : Below w.heap.size w w') : RowAt w' b o a k c := ⟨Nat.lt_of_lt_of_le h.1 hb.size, (hb.cell (p := ⟨b, o, none⟩) h.1).trans h.2⟩
def FrAt (w : World) (b o : Nat) (s t : ByteArray) : Prop := b < w.heap.size ∧ w.cell? ⟨b, o, none⟩ = some (.string s) ∧ w.cell? ⟨b, o + 1, none⟩ = some (.string t)
theorem FrAt.later {w w' : World} {b o : Nat} {s t : ByteArray} (h : FrAt w b o s t) (hb : Below w.heap.size w w') : FrAt w' b o s t := ⟨Nat.lt_of_lt_of_le h.1 hb.size, (hb.cell (p := ⟨b, o, none⟩) h.1).trans h.2.1, (hb.cell (p := ⟨b, o + 1, none⟩) h.1).trans h.2.2⟩
theorem neqFr_no (a1 a2 : ByteArray) (w : World) : (binOp .neq 59 (.agg #[.string a1, .string a2]) (.agg #[.string a1, .string a2])).run Tryz.prog w = .ok (.bool false) w := by go_simp
set_option maxRecDepth 100000 in
set_option maxHeartbeats 8000000 in
theorem turns_main (r c r1 c1 : Int) (v v1 : Value) (n k m p : Nat) (s1 t1 s2 t2 s3 t3 s4 t4 : ByteArray) (A B PM TM UM VM CM MM S TS DM NM : List (List Fr)) (L RL L1 LN : List Fr) (w : World) (ht : Bld.Pow w) (he : whole.Er w) (hv : Drafts w v) (hv1 : Drafts w v1)
  (hp0 : 0 < p) (hn0 : 0 < n) (la : A.length = n) (ha : (A.headD []).length = k) (lf : ∃ x, x = RL ∧ x.length = n) (ls : S.length = p) (hs : (S.headD []).length = p) (h0 : (S.headD []).headD Fr.no = ⟨s3, t3⟩) (lnm : NM.length = p) (hnm : (NM.headD []).length = p) (hn1 : (NM.headD []).headD Fr.no = ⟨s4, t4⟩) (l1 : L1.length = 1) (hl1 : L1.headD Fr.no = ⟨s2, t2⟩)
  (HA : Hid (∀ W, Below w.heap.size w W → Calls Tryz.prog 32 #[.agg #[.int .u8 r, .int .u8 c, v]] W (fun e w' => ∃ a cc, e = .returned (.slice a n cc) ∧ Below W.heap.size W w' ∧ MatV w' (.slice a n cc) A)))
  (HB1 : Hid (∀ W, Below w.heap.size w W → Calls Tryz.prog 32 #[.agg #[.int .u8 c, .int .u8 c1, v1]] W (fun e w' => ∃ a cc, e = .returned (.slice a k cc) ∧ Below W.heap.size W w' ∧ MatV w' (.slice a k cc) B)))
  (HP1 : Hid (MuC A B n PM)) (HT : Hid (TrC PM m TM)) (HU : Hid (TrC A k UM)) (HV : Hid (TrC B m VM)) (HW1 : Hid (MuC VM UM m TM)) (HK : Hid (TrC UM n A))
  (HL : Hid (LiC w (.agg #[.int .u8 c, .int .u8 c1, v1]) k L)) (HC : Hid (TrC [L] k CM)) (HM1 : Hid (MuC A CM n MM)) (HR : Hid (∀ a b W, MatV W a A → Frs W 59 b L → Bld.Pow W → Calls Tryz.prog 29 #[a, b] W (YesK W n RL))) (HF : Hid (TrC MM 1 [RL]))
  (HS : Hid (∀ W, Below w.heap.size w W → Calls Tryz.prog 33 #[.agg #[.int .u8 r, .int .u8 c, v]] W (fun e w' => ∃ a cc, e = .returned (.slice a p cc) ∧ Below W.heap.size W w' ∧ MatV w' (.slice a p cc) S)))
  (HTS : Hid (TrC S p TS)) (HD1 : Hid (DtC S s1 t1)) (HD2 : Hid (DtC TS s1 t1)) (HLN : Hid (LiC w (.agg #[.int .u8 r, .int .u8 c, v]) p LN)) (HDM : Hid (∀ b W, Frs W 59 b LN → Calls Tryz.prog 18 #[b] W (YesN W p DM))) (HNM : Hid (MuC DM S p NM))
  (HL1 : Hid (LiC w (.agg #[.int .u8 r, .int .u8 c, v]) 1 L1)) (HFM : Hid (FmC s2 t2 s3 t3 s4 t4)) :
  Calls Tryz.prog 9 #[.agg #[.int .u8 r, .int .u8 c, v], .agg #[.int .u8 r1, .int .u8 c1, v1]] w (fun e w' => e = .returned (.bool true) ∧ Below w.heap.size w w') := by
 have HP := Lib.hid ht
 have HE := Lib.hid he
 have HW := Lib.hid (fun W (h1 : Bld.Pow W) (h2 : whole.Er W) => works_ok W h1 h2)
 have HAL := Lib.hid la
 have HAH := Lib.hid ha
 have HSL := Lib.hid ls
 have HSH := Lib.hid hs
 have HS0 := Lib.hid h0
 have HNL := Lib.hid lnm
 have HNH := Lib.hid hnm
 have HN0 := Lib.hid hn1
 have H1L := Lib.hid l1
 have H1H := Lib.hid hl1
 obtain ⟨RL', rfl, hrl⟩ := lf
 have HRL := Lib.hid hrl
 obtain ⟨a0, nd, cap, rfl, -, -⟩ := hv
 obtain ⟨a1, nd1, cap1, rfl, -, -⟩ := hv1
 clear ht he la ha ls hs h0 lnm hnm hn1 l1 hl1 hrl
 go_enter Tryz.func9, Tryz.ntmps9
 go_wp2_with fail
 obtain ⟨u0, EW, hz, HX, HY⟩ := al2 w #[.int .u8 r, .int .u8 c, .slice a0 nd cap] 26 #[.int .u8 r1, .int .u8 c1, .slice a1 nd1 cap1] 26
 rw [EW]
 have HB := Lib.hid hz
 clear EW hz
 refine (HW.out _ (HP.out.later HB.out) (HE.out.later HB.out)).mono ?_
 rintro e u1 ⟨rfl, h⟩
 replace HX := Lib.hid (HX.out.later h)
 replace HY := Lib.hid (HY.out.later h)
 replace HB := Lib.hid (Bt HB.out h)
 clear h
 have cX := HX.out.cell
 have lX := HX.out.lt
 have cY := HY.out.cell
 have lY := HY.out.lt
 have fY := HY.out.free
 go_wp2_with fail
 clear cX lX cY lY fY
 obtain ⟨wy, EW⟩ : ∃ y, u1.setCell ⟨w.heap.size + 1, 0, none⟩ (.int .u8 c) = y := ⟨_, rfl⟩
 have h1 : Below w.heap.size w wy := by rw [← EW]; exact HB.out.setCell (by simp) _
 have h2 : Box wy w.heap.size #[.int .u8 r, .int .u8 c, .slice a0 nd cap] 26 := by rw [← EW]; exact HX.out.setOther _ (by simp)
 have h3 : Box wy (w.heap.size + 1) #[.int .u8 c, .int .u8 c1, .slice a1 nd1 cap1] 26 := by rw [← EW]; exact HY.out.set 0 _
 rw [EW]
 replace HB := Lib.hid h1
 replace HX := Lib.hid h2
 replace HY := Lib.hid h3
 clear EW h1 h2 h3
 have HR0 := Lib.hid (Below.refl wy.heap.size wy)
 refine wp_region_walk [(.read, 0), (.read, 2), (.ext, 1), (.ext, 3), (.fin, 4), (.fin, 5)] (by kernel_rfl) (by kernel_rfl) (allocRuns_of (by kernel_rfl)) (fun _ _ _ _ hd h => And.intro (hd.trans (And.left h)) (And.right h)) ?_
 refine Wk.out ?_
 have cHX := HX.out.cell
 have lHX := HX.out.lt
 have cHY := HY.out.cell
 have lHY := HY.out.lt
 repeat (first | (apply wk_skip; (rfl); (rfl); (rfl); (intro J hJ; go_simp; (with_reducible refine hJ _ ?_); clear hJ J)) | (apply wk_len; (rfl); (rfl); (rfl); (rfl); (exact (by kernel_rfl)); (intro J hJ; go_simp; (with_reducible refine hJ _ ?_); clear hJ J)) | (apply wk_pure; (rfl); (rfl); (intro J hJ; go_simp; (with_reducible refine hJ _ ?_); clear hJ J)) | (apply wk_load; (rfl); (rfl); (rfl); (rfl); (intro J hJ; go_simp; (with_reducible refine hJ _ ?_); clear hJ J; try go_simp)))
 clear cHX lHX
 clear cHY lHY
 refine wk_ext rfl rfl (fun we hbe J hJ => ?_)
 go_simp
 have hx : Below wy.heap.size wy we := belA
 have HX2 := Lib.hid (Bt HB.out hx)
 refine (HA.out _ HX2.out).mono ?_
 rintro e u2 ⟨aa, ca, rfl, h, hm⟩
 have hy := Bt hx h
 refine hJ _ _ h ?_
 clear hJ J hbe hx h HX2
 replace HX := Lib.hid (HX.out.later hy)
 replace HY := Lib.hid (HY.out.later hy)
 replace HB := Lib.hid (Bt HB.out hy)
 replace HR0 := Lib.hid (Bt HR0.out hy)
 clear hy
 have FA := Lib.hid hm
 clear hm
 have cHX := HX.out.cell
 have lHX := HX.out.lt
 have cHY := HY.out.cell
 have lHY := HY.out.lt
 repeat (first | (apply wk_skip; (rfl); (rfl); (rfl); (intro J hJ; go_simp; (with_reducible refine hJ _ ?_); clear hJ J)) | (apply wk_len; (rfl); (rfl); (rfl); (rfl); (exact (by kernel_rfl)); (intro J hJ; go_simp; (with_reducible refine hJ _ ?_); clear hJ J)) | (apply wk_pure; (rfl); (rfl); (intro J hJ; go_simp; (with_reducible refine hJ _ ?_); clear hJ J)) | (apply wk_load; (rfl); (rfl); (rfl); (rfl); (intro J hJ; go_simp; (with_reducible refine hJ _ ?_); clear hJ J; try go_simp)))
 clear cHX lHX
 clear cHY lHY
 refine wk_ext rfl rfl (fun we hbe J hJ => ?_)
 go_simp
 have hx : Below u2.heap.size u2 we := belA
 have HX2 := Lib.hid (Bt HB.out hx)
 refine (HB1.out _ HX2.out).mono ?_
 rintro e u3 ⟨ab, cb, rfl, h, hm⟩
 have hy := Bt hx h
 refine hJ _ _ h ?_
 clear hJ J hbe hx h HX2
 replace HX := Lib.hid (HX.out.later hy)
 replace HY := Lib.hid (HY.out.later hy)
 replace FA := Lib.hid (FA.out.later hy)
 replace HB := Lib.hid (Bt HB.out hy)
 replace HR0 := Lib.hid (Bt HR0.out hy)
 clear hy
 have FB := Lib.hid hm
 clear hm
 have cHX := HX.out.cell
 have lHX := HX.out.lt
 have cHY := HY.out.cell
 have lHY := HY.out.lt
 repeat (first | (apply wk_skip; (rfl); (rfl); (rfl); (intro J hJ; go_simp; (with_reducible refine hJ _ ?_); clear hJ J)) | (apply wk_len; (rfl); (rfl); (rfl); (rfl); (exact (by kernel_rfl)); (intro J hJ; go_simp; (with_reducible refine hJ _ ?_); clear hJ J)) | (apply wk_pure; (rfl); (rfl); (intro J hJ; go_simp; (with_reducible refine hJ _ ?_); clear hJ J)) | (apply wk_load; (rfl); (rfl); (rfl); (rfl); (intro J hJ; go_simp; (with_reducible refine hJ _ ?_); clear hJ J; try go_simp)))
 clear cHX lHX
 clear cHY lHY
 refine wk_fin [_, _] rfl (fun u4 hbf => ?_)
 have hy : Below u3.heap.size u3 u4 := belA
 replace HX := Lib.hid (HX.out.later hy)
 replace HY := Lib.hid (HY.out.later hy)
 replace FA := Lib.hid (FA.out.later hy)
 replace FB := Lib.hid (FB.out.later hy)
 replace HB := Lib.hid (Bt HB.out hy)
 clear hy hbf HR0
 obtain ⟨bA, oA, ccA, raA, rcA, e, lb, xa, fa⟩ := first_row FA.out (by rw [HAL.out]; exact hn0) HAH.out
 simp only [Value.slice.injEq] at e
 obtain ⟨rfl, -, rfl⟩ := e
 have RA : Hid (RowAt _ bA oA raA _ rcA) := Lib.hid ⟨lb, xa⟩
 clear lb xa fa
 go_wp2_with fail
 refine (HP1.out _ _ _ FA.out FB.out (HP.out.later HB.out)).mono ?_
 rintro e u5 ⟨aFP, cFP, rfl, h, hm⟩
 replace HX := Lib.hid (HX.out.later h)
 replace HY := Lib.hid (HY.out.later h)
 replace FA := Lib.hid (FA.out.later h)
 replace FB := Lib.hid (FB.out.later h)
 replace RA := Lib.hid (RA.out.later h)
 replace HB := Lib.hid (Bt HB.out h)
 clear h
 have FP := Lib.hid hm
 clear hm
 go_wp2_with fail
 refine (HT.out _ _ FP.out).mono ?_
 rintro e u6 ⟨aFT, cFT, rfl, h, hm⟩
 replace HX := Lib.hid (HX.out.later h)
 replace HY := Lib.hid (HY.out.later h)
 replace FA := Lib.hid (FA.out.later h)
 replace FB := Lib.hid (FB.out.later h)
 replace RA := Lib.hid (RA.out.later h)
 replace HB := Lib.hid (Bt HB.out h)
 clear h
 have FT := Lib.hid hm
 clear hm
 go_wp2_with fail
 refine (HU.out _ _ FA.out).mono ?_
 rintro e u7 ⟨aFU, cFU, rfl, h, hm⟩
 replace HX := Lib.hid (HX.out.later h)
 replace HY := Lib.hid (HY.out.later h)
 replace FA := Lib.hid (FA.out.later h)
 replace FB := Lib.hid (FB.out.later h)
 replace RA := Lib.hid (RA.out.later h)
 replace FT := Lib.hid (FT.out.later h)
 replace HB := Lib.hid (Bt HB.out h)
 clear h
 have FU := Lib.hid hm
 clear hm
 go_wp2_with fail
 refine (HV.out _ _ FB.out).mono ?_
 rintro e u8 ⟨aFV, cFV, rfl, h, hm⟩
 replace HX := Lib.hid (HX.out.later h)
 replace HY := Lib.hid (HY.out.later h)
 replace FA := Lib.hid (FA.out.later h)
 replace RA := Lib.hid (RA.out.later h)
 replace FT := Lib.hid (FT.out.later h)
 replace FU := Lib.hid (FU.out.later h)
 replace HB := Lib.hid (Bt HB.out h)
 clear h
 have FV := Lib.hid hm
 clear hm
 go_wp2_with fail
 refine (HW1.out _ _ _ FV.out FU.out (HP.out.later HB.out)).mono ?_
 rintro e u9 ⟨aFW, cFW, rfl, h, hm⟩
 replace HX := Lib.hid (HX.out.later h)
 replace HY := Lib.hid (HY.out.later h)
 replace FA := Lib.hid (FA.out.later h)
 replace RA := Lib.hid (RA.out.later h)
 replace FT := Lib.hid (FT.out.later h)
 replace FU := Lib.hid (FU.out.later h)
 replace HB := Lib.hid (Bt HB.out h)
 clear h
 have FW := Lib.hid hm
 clear hm
 go_wp2_with fail
 refine (HK.out _ _ FU.out).mono ?_
 rintro e u10 ⟨aFK, cFK, rfl, h, hm⟩
 replace HX := Lib.hid (HX.out.later h)
 replace HY := Lib.hid (HY.out.later h)
 replace FA := Lib.hid (FA.out.later h)
 replace RA := Lib.hid (RA.out.later h)
 replace FT := Lib.hid (FT.out.later h)
 replace FW := Lib.hid (FW.out.later h)
 replace HB := Lib.hid (Bt HB.out h)
 clear h
 have FK := Lib.hid hm
 clear hm
 go_wp2_with fail
 refine (matrix.Same_ok _ _ TM _ FT.out FW.out).mono ?_
 rintro e u11 ⟨rfl, h⟩
 replace HX := Lib.hid (HX.out.later h)
 replace HY := Lib.hid (HY.out.later h)
 replace FA := Lib.hid (FA.out.later h)
 replace RA := Lib.hid (RA.out.later h)
 replace FK := Lib.hid (FK.out.later h)
 replace HB := Lib.hid (Bt HB.out h)
 clear h
 go_wp2_with fail
 refine (matrix.Same_ok _ _ A _ FK.out FA.out).mono ?_
 rintro e u12 ⟨rfl, h⟩
 replace HX := Lib.hid (HX.out.later h)
 replace HY := Lib.hid (HY.out.later h)
 replace FA := Lib.hid (FA.out.later h)
 replace RA := Lib.hid (RA.out.later h)
 replace HB := Lib.hid (Bt HB.out h)
 clear h
 go_wp2_with fail
 have HR0 := Lib.hid (Below.refl u12.heap.size u12)
 refine wp_region_walk [(.read, 0), (.pure, 1), (.pure, 2), (.read, 3), (.pure, 4), (.ext, 5), (.fin, 6)] (by kernel_rfl) (by kernel_rfl) (allocRuns_of (by kernel_rfl)) (fun _ _ _ _ hd h => And.intro (hd.trans (And.left h)) (And.right h)) ?_
 refine Wk.out ?_
 have cHY := HY.out.cell
 have lHY := HY.out.lt
 have lRA := RA.out.1
 have xRA := RA.out.2
 repeat (first | (apply wk_skip; (rfl); (rfl); (rfl); (intro J hJ; go_simp; (with_reducible refine hJ _ ?_); clear hJ J)) | (apply wk_len; (rfl); (rfl); (rfl); (rfl); (exact (by kernel_rfl)); (intro J hJ; go_simp; (with_reducible refine hJ _ ?_); clear hJ J)) | (apply wk_pure; (rfl); (rfl); (intro J hJ; go_simp; (with_reducible refine hJ _ ?_); clear hJ J)) | (apply wk_load; (rfl); (rfl); (rfl); (rfl); (intro J hJ; go_simp; (with_reducible refine hJ _ ?_); clear hJ J; try go_simp)))
 clear cHY lHY
 clear lRA xRA
 refine wk_ext rfl rfl (fun we hbe J hJ => ?_)
 go_simp
 have hx : Below u12.heap.size u12 we := belA
 have HX2 := Lib.hid (Bt HB.out hx)
 refine (HL.out _ HX2.out).mono ?_
 rintro e u13 ⟨al, cl, rfl, h, hm⟩
 have hy := Bt hx h
 refine hJ _ _ h ?_
 clear hJ J hbe hx h HX2
 replace HX := Lib.hid (HX.out.later hy)
 replace HY := Lib.hid (HY.out.later hy)
 replace FA := Lib.hid (FA.out.later hy)
 replace RA := Lib.hid (RA.out.later hy)
 replace HB := Lib.hid (Bt HB.out hy)
 replace HR0 := Lib.hid (Bt HR0.out hy)
 clear hy
 have FL := Lib.hid hm
 clear hm
 have cHY := HY.out.cell
 have lHY := HY.out.lt
 have lRA := RA.out.1
 have xRA := RA.out.2
 repeat (first | (apply wk_skip; (rfl); (rfl); (rfl); (intro J hJ; go_simp; (with_reducible refine hJ _ ?_); clear hJ J)) | (apply wk_len; (rfl); (rfl); (rfl); (rfl); (exact (by kernel_rfl)); (intro J hJ; go_simp; (with_reducible refine hJ _ ?_); clear hJ J)) | (apply wk_pure; (rfl); (rfl); (intro J hJ; go_simp; (with_reducible refine hJ _ ?_); clear hJ J)) | (apply wk_load; (rfl); (rfl); (rfl); (rfl); (intro J hJ; go_simp; (with_reducible refine hJ _ ?_); clear hJ J; try go_simp)))
 clear cHY lHY
 clear lRA xRA
 refine wk_fin [_] rfl (fun u14 hbf => ?_)
 have hy : Below u13.heap.size u13 u14 := belA
 replace HX := Lib.hid (HX.out.later hy)
 replace FA := Lib.hid (FA.out.later hy)
 replace FL := Lib.hid (FL.out.later hy)
 replace HB := Lib.hid (Bt HB.out hy)
 clear hy hbf HR0
 go_wp2_with fail
 obtain ⟨wc, EW, h, Z0⟩ := al1 u14 #[.slice al k cl] 29
 rw [EW]
 clear EW
 obtain ⟨bc, eb⟩ : ∃ y, u14.heap.size = y := ⟨_, rfl⟩
 rw [eb] at Z0 ⊢
 clear eb
 replace HX := Lib.hid (HX.out.later h)
 replace FA := Lib.hid (FA.out.later h)
 replace FL := Lib.hid (FL.out.later h)
 replace HB := Lib.hid (Bt HB.out h)
 clear h
 have FZ := Lib.hid (mat_one Z0.out FL.out)
 clear Z0
 refine (HC.out _ _ FZ.out).mono ?_
 rintro e u15 ⟨aFC, cFC, rfl, h, hm⟩
 replace HX := Lib.hid (HX.out.later h)
 replace FA := Lib.hid (FA.out.later h)
 replace FL := Lib.hid (FL.out.later h)
 replace HB := Lib.hid (Bt HB.out h)
 clear h
 have FC := Lib.hid hm
 clear hm
 go_wp2_with fail
 refine (HM1.out _ _ _ FA.out FC.out (HP.out.later HB.out)).mono ?_
 rintro e u16 ⟨aFM, cFM, rfl, h, hm⟩
 replace HX := Lib.hid (HX.out.later h)
 replace FA := Lib.hid (FA.out.later h)
 replace FL := Lib.hid (FL.out.later h)
 replace HB := Lib.hid (Bt HB.out h)
 clear h
 have FM := Lib.hid hm
 clear hm
 go_wp2_with fail
 refine (HR.out _ _ _ FA.out FL.out (HP.out.later HB.out)).mono ?_
 rintro e u17 ⟨ar, cr, rfl, h, hm⟩
 replace HX := Lib.hid (HX.out.later h)
 replace FM := Lib.hid (FM.out.later h)
 replace HB := Lib.hid (Bt HB.out h)
 clear h
 have FR := Lib.hid hm
 clear hm
 go_wp2_with fail
 refine (HF.out _ _ FM.out).mono ?_
 rintro e u18 ⟨af, cf, rfl, h, hm⟩
 replace HX := Lib.hid (HX.out.later h)
 replace FR := Lib.hid (FR.out.later h)
 replace HB := Lib.hid (Bt HB.out h)
 clear h
 have FF := Lib.hid hm
 clear hm
 obtain ⟨bF, oF, ccF, raF, rcF, e, lb, xa, fa⟩ := first_row FF.out (by rw [(show [RL'].length = 1 from rfl)]; exact Nat.one_pos) HRL.out
 simp only [Value.slice.injEq] at e
 obtain ⟨rfl, -, rfl⟩ := e
 have RF : Hid (RowAt _ bF oF raF _ rcF) := Lib.hid ⟨lb, xa⟩
 have F1 := Lib.hid fa
 clear lb xa fa
 have lRF := RF.out.1
 have xRF := RF.out.2
 go_wp2_with fail
 clear lRF xRF
 refine (SameList_ok _ _ RL' _ F1.out FR.out).mono ?_
 rintro e u19 ⟨rfl, h⟩
 replace HX := Lib.hid (HX.out.later h)
 replace HB := Lib.hid (Bt HB.out h)
 clear h
 have cHX := HX.out.cell
 have lHX := HX.out.lt
 go_wp2_with fail
 clear cHX lHX
 refine (HS.out _ HB.out).mono ?_
 rintro e u20 ⟨aS, cS, rfl, h, hm⟩
 replace HX := Lib.hid (HX.out.later h)
 replace HB := Lib.hid (Bt HB.out h)
 clear h
 have FS := Lib.hid hm
 clear hm
 go_wp2_with fail
 refine (HTS.out _ _ FS.out).mono ?_
 rintro e u21 ⟨aFU2, cFU2, rfl, h, hm⟩
 replace HX := Lib.hid (HX.out.later h)
 replace FS := Lib.hid (FS.out.later h)
 replace HB := Lib.hid (Bt HB.out h)
 clear h
 have FU2 := Lib.hid hm
 clear hm
 go_wp2_with fail
 refine (HD1.out _ _ FS.out (HP.out.later HB.out)).mono ?_
 rintro e u22 ⟨rfl, h⟩
 replace HX := Lib.hid (HX.out.later h)
 replace FS := Lib.hid (FS.out.later h)
 replace FU2 := Lib.hid (FU2.out.later h)
 replace HB := Lib.hid (Bt HB.out h)
 clear h
 go_wp2_with fail
 obtain ⟨wd22, EW, h, G1⟩ := al1 u22 #[.string s1, .string t1] 59
 rw [EW]
 clear EW
 obtain ⟨bd22, eb⟩ : ∃ y, u22.heap.size = y := ⟨_, rfl⟩
 rw [eb] at G1 ⊢
 clear eb
 replace HX := Lib.hid (HX.out.later h)
 replace FS := Lib.hid (FS.out.later h)
 replace FU2 := Lib.hid (FU2.out.later h)
 replace HB := Lib.hid (Bt HB.out h)
 clear h
 refine (HD2.out _ _ FU2.out (HP.out.later HB.out)).mono ?_
 rintro e u23 ⟨rfl, h⟩
 replace HX := Lib.hid (HX.out.later h)
 replace FS := Lib.hid (FS.out.later h)
 replace G1 := Lib.hid (G1.out.later h)
 replace HB := Lib.hid (Bt HB.out h)
 clear h
 have cHX := HX.out.cell
 have lHX := HX.out.lt
 go_wp2_with fail
 clear cHX lHX
 obtain ⟨wd23, EW, h, G2⟩ := al1 u23 #[.string s1, .string t1] 59
 rw [EW]
 clear EW
 obtain ⟨bd23, eb⟩ : ∃ y, u23.heap.size = y := ⟨_, rfl⟩
 rw [eb] at G2 ⊢
 clear eb
 replace HX := Lib.hid (HX.out.later h)
 replace FS := Lib.hid (FS.out.later h)
 replace G1 := Lib.hid (G1.out.later h)
 replace HB := Lib.hid (Bt HB.out h)
 clear h
 have cHX := HX.out.cell
 have lHX := HX.out.lt
 go_wp2_with fail
 clear cHX lHX
 refine (HLN.out _ HB.out).mono ?_
 rintro e u24 ⟨ae, ce, rfl, h, hm⟩
 replace HX := Lib.hid (HX.out.later h)
 replace FS := Lib.hid (FS.out.later h)
 replace G1 := Lib.hid (G1.out.later h)
 replace G2 := Lib.hid (G2.out.later h)
 replace HB := Lib.hid (Bt HB.out h)
 clear h
 have FE := Lib.hid hm
 clear hm
 go_wp2_with fail
 refine (HDM.out _ _ FE.out).mono ?_
 rintro e u25 ⟨ad, cd, rfl, h, hm⟩
 replace HX := Lib.hid (HX.out.later h)
 replace FS := Lib.hid (FS.out.later h)
 replace G1 := Lib.hid (G1.out.later h)
 replace G2 := Lib.hid (G2.out.later h)
 replace HB := Lib.hid (Bt HB.out h)
 clear h
 have FD := Lib.hid hm
 clear hm
 go_wp2_with fail
 refine (HNM.out _ _ _ FD.out FS.out (HP.out.later HB.out)).mono ?_
 rintro e u26 ⟨an, cn, rfl, h, hm⟩
 replace HX := Lib.hid (HX.out.later h)
 replace FS := Lib.hid (FS.out.later h)
 replace G1 := Lib.hid (G1.out.later h)
 replace G2 := Lib.hid (G2.out.later h)
 replace HB := Lib.hid (Bt HB.out h)
 clear h
 have FN := Lib.hid hm
 clear hm
 have HEQ := @neqFr_no
 have cG1 := G1.out.cell
 have lG1 := G1.out.lt
 have cG2 := G2.out.cell
 have lG2 := G2.out.lt
 go_wp2_with fail
 clear cG1 lG1
 clear cG2 lG2
 clear HEQ
 obtain ⟨bS, oS, ccS, raS, rcS, e, lb, xa, fa⟩ := first_row FS.out (by rw [HSL.out]; exact hp0) HSH.out
 simp only [Value.slice.injEq] at e
 obtain ⟨rfl, -, rfl⟩ := e
 have RS : Hid (RowAt _ bS oS raS _ rcS) := Lib.hid ⟨lb, xa⟩
 obtain ⟨fbS, foS, rfl, l3, x3, x4⟩ := first_frac fa (by rw [HSH.out]; exact hp0) HS0.out
 have QS : Hid (FrAt _ fbS foS _ _) := Lib.hid ⟨l3, x3, x4⟩
 clear l3 x3 x4
 clear lb xa fa
 obtain ⟨bN, oN, ccN, raN, rcN, e, lb, xa, fa⟩ := first_row FN.out (by rw [HNL.out]; exact hp0) HNH.out
 simp only [Value.slice.injEq] at e
 obtain ⟨rfl, -, rfl⟩ := e
 have RN : Hid (RowAt _ bN oN raN _ rcN) := Lib.hid ⟨lb, xa⟩
 obtain ⟨fbN, foN, rfl, l3, x3, x4⟩ := first_frac fa (by rw [HNH.out]; exact hp0) HN0.out
 have QN : Hid (FrAt _ fbN foN _ _) := Lib.hid ⟨l3, x3, x4⟩
 clear l3 x3 x4
 clear lb xa fa
 have HB0 := HB
 have RN0 := RN
 have QN0 := QN
 have hsz := Lib.hid (Nat.le_refl u26.heap.size)
 have HR0 := Lib.hid (Below.refl u26.heap.size u26)
 refine wp_region_walk [(.read, 0), (.pure, 4), (.pure, 5), (.read, 6), (.pure, 7), (.read, 8), (.ext, 1), (.pure, 2), (.read, 3), (.ext, 9), (.pure, 10), (.pure, 11), (.pure, 12), (.alloc #[.string ⟨#[]⟩, .string ⟨#[]⟩] 59, 13), (.fin, 14), (.fin, 15)] (by kernel_rfl) (by kernel_rfl) (allocRuns_of (by kernel_rfl)) (fun _ _ _ _ hd h => And.intro (hd.trans (And.left h)) (And.right h)) ?_
 refine Wk.out ?_
 have cHX := HX.out.cell
 have lHX := HX.out.lt
 have lRS := RS.out.1
 have xRS := RS.out.2
 have lQS := QS.out.1
 have xQS := QS.out.2.1
 have yQS := QS.out.2.2
 repeat (first | (apply wk_skip; (rfl); (rfl); (rfl); (intro J hJ; go_simp; (with_reducible refine hJ _ ?_); clear hJ J)) | (apply wk_len; (rfl); (rfl); (rfl); (rfl); (exact (by kernel_rfl)); (intro J hJ; go_simp; (with_reducible refine hJ _ ?_); clear hJ J)) | (apply wk_pure; (rfl); (rfl); (intro J hJ; go_simp; (with_reducible refine hJ _ ?_); clear hJ J)) | (apply wk_load; (rfl); (rfl); (rfl); (rfl); (intro J hJ; go_simp; (with_reducible refine hJ _ ?_); clear hJ J; try go_simp)))
 clear cHX lHX
 clear lRS xRS
 clear lQS xQS yQS
 refine wk_ext rfl rfl (fun we hbe J hJ => ?_)
 go_simp
 have hx : Below u26.heap.size u26 we := belA
 have HX2 := Lib.hid (Bt HB.out hx)
 refine (HL1.out _ HX2.out).mono ?_
 rintro e u27 ⟨al1, cl1, rfl, h, hm⟩
 have hy := Bt hx h
 refine hJ _ _ h ?_
 clear hJ J hbe hx h HX2
 replace RS := Lib.hid (RS.out.later hy)
 replace QS := Lib.hid (QS.out.later hy)
 replace RN := Lib.hid (RN.out.later hy)
 replace QN := Lib.hid (QN.out.later hy)
 replace HB := Lib.hid (Bt HB.out hy)
 replace HR0 := Lib.hid (Bt HR0.out hy)
 clear hy
 have FL1 := Lib.hid hm
 clear hm
 obtain ⟨fbL, foL, rfl, l3, x3, x4⟩ := first_frac FL1.out (by rw [H1L.out]; exact Nat.one_pos) H1H.out
 have QL := Lib.hid (show FrAt _ fbL foL _ _ from ⟨l3, x3, x4⟩)
 clear l3 x3 x4
 have lRS := RS.out.1
 have xRS := RS.out.2
 have lQS := QS.out.1
 have xQS := QS.out.2.1
 have yQS := QS.out.2.2
 have lQL := QL.out.1
 have xQL := QL.out.2.1
 have yQL := QL.out.2.2
 repeat (first | (apply wk_skip; (rfl); (rfl); (rfl); (intro J hJ; go_simp; (with_reducible refine hJ _ ?_); clear hJ J)) | (apply wk_len; (rfl); (rfl); (rfl); (rfl); (exact (by kernel_rfl)); (intro J hJ; go_simp; (with_reducible refine hJ _ ?_); clear hJ J)) | (apply wk_pure; (rfl); (rfl); (intro J hJ; go_simp; (with_reducible refine hJ _ ?_); clear hJ J)) | (apply wk_load; (rfl); (rfl); (rfl); (rfl); (intro J hJ; go_simp; (with_reducible refine hJ _ ?_); clear hJ J; try go_simp)))
 clear lRS xRS
 clear lQS xQS yQS
 clear lQL xQL yQL
 refine wk_ext rfl rfl (fun we hbe J hJ => ?_)
 go_simp
 have hx : Below u27.heap.size u27 we := belA
 have HX2 := Lib.hid (Bt HB.out hx)
 refine (HFM.out _ (HP.out.later HX2.out)).mono ?_
 rintro e u28 ⟨rfl, h⟩
 have hy := Bt hx h
 refine hJ _ _ h ?_
 clear hJ J hbe hx h HX2
 replace RN := Lib.hid (RN.out.later hy)
 replace QN := Lib.hid (QN.out.later hy)
 replace HB := Lib.hid (Bt HB.out hy)
 replace HR0 := Lib.hid (Bt HR0.out hy)
 clear hy
 repeat (first | (apply wk_skip; (rfl); (rfl); (rfl); (intro J hJ; go_simp; (with_reducible refine hJ _ ?_); clear hJ J)) | (apply wk_len; (rfl); (rfl); (rfl); (rfl); (exact (by kernel_rfl)); (intro J hJ; go_simp; (with_reducible refine hJ _ ?_); clear hJ J)) | (apply wk_pure; (rfl); (rfl); (intro J hJ; go_simp; (with_reducible refine hJ _ ?_); clear hJ J)) | (apply wk_load; (rfl); (rfl); (rfl); (rfl); (intro J hJ; go_simp; (with_reducible refine hJ _ ?_); clear hJ J; try go_simp)))
 refine wk_alloc rfl (fun q wg hbg hq1 hq2 hq3 hx9 => ?_); go_simp
 replace hx9 : Box wg q #[.string ⟨#[]⟩, .string ⟨#[]⟩] 59 := hx9
 refine wk_fin [_, _] rfl (fun wh hbh => ?_)
 have Y9 := hx9.later hbh
 have z8 := Bt (Bt HR0.out hbg) hbh
 have c9 := Y9.cell
 have l9 := Y9.lt
 have f9 := Y9.free
 have hQ := (Y9.set 0 (.string s4)).set 1 (.string t4)
 have hZ := (z8.setCell (p := ⟨q, 0, none⟩) hq1 (.string s4)).setCell (p := ⟨q, 1, none⟩) hq1 (.string t4)
 have HQ9 := Lib.hid hQ
 have HZ9 := Lib.hid hZ
 clear hbg hbh hx9 z8 Y9 hQ hZ hq2 hq3 hq1
 go_wp2_with fail
 clear c9 l9 f9
 obtain ⟨W9, EW⟩ : ∃ y, (wh.setCell ⟨q, 0, none⟩ (.string s4)).setCell ⟨q, 1, none⟩ (.string t4) = y := ⟨_, rfl⟩
 rw [EW] at HQ9 HZ9 ⊢
 have Q9 : Hid (Box W9 q #[.string s4, .string t4] 59) := HQ9
 clear EW HQ9
 replace RN := Lib.hid (RN0.out.later HZ9.out)
 replace QN := Lib.hid (QN0.out.later HZ9.out)
 replace HB := Lib.hid (Bt HB0.out HZ9.out)
 clear RN0 QN0 HZ9 HB0 HR0
 have HEQ := @run_eqFr_same
 have HR0 := Lib.hid (Below.refl W9.heap.size W9)
 refine wp_region_walk [(.pure, 0), (.pure, 1), (.pure, 2), (.pure, 3), (.pure, 4), (.read, 5), (.pure, 6), (.read, 7), (.read, 8), (.pure, 9), (.pure, 10), (.fin, 11)] (by kernel_rfl) (by kernel_rfl) (allocRuns_of (by kernel_rfl)) (fun _ _ _ _ hd h => And.intro (hd.trans (And.left h)) (And.right h)) ?_
 refine Wk.out ?_
 have cQ9 := Q9.out.cell
 have lQ9 := Q9.out.lt
 have lRN := RN.out.1
 have xRN := RN.out.2
 have lQN := QN.out.1
 have xQN := QN.out.2.1
 have yQN := QN.out.2.2
 repeat (first | (apply wk_skip; (rfl); (rfl); (rfl); (intro J hJ; go_simp; (with_reducible refine hJ _ ?_); clear hJ J)) | (apply wk_len; (rfl); (rfl); (rfl); (rfl); (exact (by kernel_rfl)); (intro J hJ; go_simp; (with_reducible refine hJ _ ?_); clear hJ J)) | (apply wk_pure; (rfl); (rfl); (intro J hJ; go_simp; (with_reducible refine hJ _ ?_); clear hJ J)) | (apply wk_load; (rfl); (rfl); (rfl); (rfl); (intro J hJ; go_simp; (with_reducible refine hJ _ ?_); clear hJ J; try go_simp)))
 clear cQ9 lQ9
 clear lRN xRN
 clear lQN xQN yQN
 refine wk_fin [_] rfl (fun uz hbf => ?_)
 have hy : Below W9.heap.size W9 uz := belA
 go_wp2_with fail
 go_ret
 exact ⟨rfl, Bt HB.out (Bt hy belA)⟩
theorem head2 {n k : Nat} (hn : 1 ≤ n ∧ n ≤ 4) (hk : 1 ≤ k ∧ k ≤ 4) (f : Nat → Nat → Rat) : ((mkR n k f).fr.headD []).headD Fr.no = ⟨(Fr.of (f 0 0)).n, (Fr.of (f 0 0)).d⟩ := by
 obtain ⟨a, rfl⟩ : ∃ a, n = a + 1 := ⟨n - 1, by omega⟩
 obtain ⟨b, rfl⟩ : ∃ b, k = b + 1 := ⟨k - 1, by omega⟩
 simp [RM.fr, mkR, List.range_succ_eq_map]
theorem fr_row {k : Nat} (x : Nat → Rat) : [((List.range k).map x).map Fr.of] = (mkR 1 k fun _ j => x j).fr := by
 simp [RM.fr, mkR, List.range_succ]
theorem diag_mk {n : Nat} {y : Nat → Rat} (hn : 1 ≤ n ∧ n ≤ 4) (h : ∀ i, okq (y i) = true) : diagE (((List.range n).map y).map Fr.of) = 0 ∧ diagM (((List.range n).map y).map Fr.of) = (mkR n n fun i j => if i = j then y i else 0).fr := by
 obtain ⟨l, el⟩ : ∃ l, ((List.range n).map y).map Fr.of = l := ⟨_, rfl⟩
 have hl : l.length = n := by rw [← el]; simp
 have hg : ∀ i, i < n → l.getD i Fr.no = Fr.of (y i) := fun i hi => by rw [← el]; simp [hi]
 have hc : chkL l = 0 := by
  rw [← el]
  refine chkL_of fun q hq => ?_
  obtain ⟨i, -, rfl⟩ := List.mem_map.1 hq
  exact h i
 rw [el]
 constructor
 ·unfold diagE
  rw [hl, if_neg (by omega)]
  exact hc
 ·unfold diagM RM.fr mkR
  rw [hl, List.map_map]
  refine List.map_congr_left fun i hi => ?_
  have hi' := List.mem_range.1 hi
  unfold diagRow
  rw [hl, Function.comp_apply, List.map_map]
  refine List.map_congr_left fun j _ => ?_
  show (if j = i then l.getD i Fr.no else Fr.zero) = Fr.of (if i = j then y i else 0)
  by_cases e : i = j
  ·subst e
   rw [if_pos rfl, if_pos rfl]
   exact hg i hi'
  ·rw [if_neg e, if_neg (fun x => e x.symm)]
   decide +kernel
theorem smR_diag {n i : Nat} (hn : 1 ≤ n ∧ n ≤ 4) (hi : i < n) (y : Nat → Rat) (f : Nat → Nat → Rat) (j : Nat) : smR n (fun l => (if i = l then y i else 0) * f l j) = y i * f i j := by
 rw [← smR_dl hn hi (fun l => y i * f l j)]
 refine smR_congr hn fun l _ => ?_
 unfold dl
 by_cases e : i = l
 ·rw [if_pos e, if_pos e, Rat.one_mul]
 ·rw [if_neg e, if_neg e, Rat.zero_mul, Rat.zero_mul]
theorem app_pair {r k : Nat} {F : Nat → Nat → Rat} {z : Nat → Rat} (hr : 1 ≤ r ∧ r ≤ 4) (hk : 1 ≤ k ∧ k ≤ 4) (hF : ∀ i, i < r → ∀ j, j < k → okq (F i j) = true) (hz : ∀ i, i < k → okq (z i) = true) (hs : ∀ i, i < r → okq (smR k fun l => F i l * z l) = true) :
  appE (mkR r k F).fr (((List.range k).map z).map Fr.of) = 0 ∧ appL (mkR r k F).fr (((List.range k).map z).map Fr.of) = ((List.range r).map fun i => smR k fun l => F i l * z l).map Fr.of := by
 have o := ok_mk hr hk hF
 have hq : ∀ q ∈ (List.range k).map z, okq q = true := fun q hq => by
  obtain ⟨i, hi, rfl⟩ := List.mem_map.1 hq
  exact hz i (List.mem_range.1 hi)
 have e1 : (((List.range k).map z).map Fr.of).map qF = (List.range k).map z := by
  rw [List.map_map]
  conv => rhs; rw [← List.map_id ((List.range k).map z)]
  refine List.map_congr_left fun q h => ?_
  show qF (Fr.of q) = q
  unfold qF
  rw [rd_of (hq q h)]
  rfl
 have e2 : appQ (mkR r k F).fr (((List.range k).map z).map Fr.of) = (List.range r).map fun i => smR k fun l => F i l * z l := by
  unfold appQ
  rw [rmQ_fr o, e1]
  exact app_mk hk F z
 unfold appE appL
 rw [e2, if_pos (okM_RM o), if_pos (chkL_of hq), head_RM o, if_pos (by simp), if_pos]
 ·exact ⟨rfl, rfl⟩
 ·rw [List.all_eq_true]
  intro q hq
  obtain ⟨i, hi, rfl⟩ := List.mem_map.1 hq
  exact hs i (List.mem_range.1 hi)
/-- MatrixTurns returns true. -/
theorem turns_ok (r c r1 c1 : Int) (v v1 : Value) (w : World) (hr : 0 ≤ r ∧ r ≤ 255) (hc : 0 ≤ c ∧ c ≤ 255) (hc1 : 0 ≤ c1 ∧ c1 ≤ 255) (ht : Bld.Pow w) (he : whole.Er w) (hv : Drafts w v) (hv1 : Drafts w v1) :
  Calls Tryz.prog 9 #[.agg #[.int .u8 r, .int .u8 c, v], .agg #[.int .u8 r1, .int .u8 c1, v1]] w (fun e w' => e = .returned (.bool true) ∧ Below w.heap.size w w') := by
 obtain ⟨G, hG⟩ := DrG.of r c hv
 obtain ⟨G1, hG1⟩ := DrG.of c c1 hv1
 obtain ⟨n, hn⟩ : ∃ n : Nat, 1 + r % 4 = (n : Int) := ⟨(1 + r % 4).toNat, by omega⟩
 obtain ⟨k, hk⟩ : ∃ n : Nat, 1 + c % 4 = (n : Int) := ⟨(1 + c % 4).toNat, by omega⟩
 obtain ⟨m, hm⟩ : ∃ m : Nat, 1 + c1 % 4 = (m : Int) := ⟨(1 + c1 % 4).toNat, by omega⟩
 have n1 : 1 ≤ n ∧ n ≤ 4 := by omega
 have k1 : 1 ≤ k ∧ k ≤ 4 := by omega
 have m1 : 1 ≤ m ∧ m ≤ 4 := by omega
 have o1 : 1 ≤ 1 ∧ 1 ≤ 4 := by omega
 obtain ⟨f, hf⟩ : ∃ f : Nat → Nat → Rat, f = fun i j => G (4 * i + j) := ⟨_, rfl⟩
 obtain ⟨g, hg⟩ : ∃ f : Nat → Nat → Rat, f = fun i j => G1 (4 * i + j) := ⟨_, rfl⟩
 obtain ⟨y, hy⟩ : ∃ x : Nat → Rat, x = fun i => G (5 * i + 3) := ⟨_, rfl⟩
 obtain ⟨x, hx⟩ : ∃ x : Nat → Rat, x = fun i => G1 (5 * i + 3) := ⟨_, rfl⟩
 have fs : ∀ i j, Sm (f i j) := fun i j => by rw [hf]; exact hG.1 _
 have gs : ∀ i j, Sm (g i j) := fun i j => by rw [hg]; exact hG1.1 _
 have ys : ∀ i, Sm (y i) := fun i => by rw [hy]; exact hG.1 _
 have xs : ∀ i, Sm (x i) := fun i => by rw [hx]; exact hG1.1 _
 obtain ⟨p, hp⟩ : ∃ p : Nat → Nat → Rat, p = fun i j => smR k fun l => f i l * g l j := ⟨_, rfl⟩
 obtain ⟨z, hz⟩ : ∃ z : Nat → Rat, z = fun i => smR k fun l => f i l * x l := ⟨_, rfl⟩
 have po : ∀ i j, okq (p i j) = true := fun i j => by rw [hp]; exact (dot_ht (a := 3) (b := 3) k1 (fun l _ => (fs i l).ht) (fun l _ => (gs l j).ht)).ok (by omega)
 have zok : ∀ i, okq (z i) = true := fun i => by rw [hz]; exact (dot_ht (a := 3) (b := 3) k1 (fun l _ => (fs i l).ht) (fun l _ => (xs l).ht)).ok (by omega)
 have fo : ∀ i j, okq (f i j) = true := fun i j => (fs i j).1
 have go : ∀ i j, okq (g i j) = true := fun i j => (gs i j).1
 obtain ⟨a1, a2⟩ := mulE_mk (f := f) (g := g) n1 k1 m1 (fun i _ j _ => fo i j) (fun i _ j _ => go i j) (fun i _ j _ => by have := po i j; rw [hp] at this; exact this)
 rw [← hp] at a2
 have ew : (mkR m n fun i j => smR k fun l => g l i * f j l) = mkR m n fun i j => p j i := mkR_congr fun i _ j _ => by
  rw [hp]
  exact smR_congr k1 fun l _ => Rat.mul_comm _ _
 obtain ⟨b1, b2⟩ := mulE_mk (f := fun i j => g j i) (g := fun i j => f j i) m1 k1 n1 (fun i _ j _ => go j i) (fun i _ j _ => fo j i) (fun i _ j _ => by
  have := po j i
  rw [hp] at this
  refine Eq.trans (congrArg okq (smR_congr k1 fun l _ => Rat.mul_comm _ _)) this)
 rw [ew] at b2
 obtain ⟨c1', c2'⟩ := mulE_mk (f := f) (g := fun i _ => x i) n1 k1 o1 (fun i _ j _ => fo i j) (fun i _ _ _ => (xs i).1) (fun i _ j _ => by have := zok i; rw [hz] at this; exact this)
 obtain ⟨d1, d2⟩ := app_pair (F := f) (z := x) n1 k1 (fun i _ j _ => fo i j) (fun i _ => (xs i).1) (fun i _ => by have := zok i; rw [hz] at this; exact this)
 obtain ⟨e1, e2⟩ := diag_mk (y := y) n1 fun i => (ys i).1
 have es : ∀ i, i < n → ∀ j, j < n → smR n (fun l => (if i = l then y i else 0) * f l j) = y i * f i j := fun i hi j _ => smR_diag n1 hi y f j
 have eo : ∀ i j, okq (y i * f i j) = true := fun i j => ((ys i).ht.mul (fs i j).ht).ok (by omega)
 obtain ⟨h1, h2⟩ := mulE_mk (f := fun i j => if i = j then y i else 0) (g := f) n1 n1 n1 (fun i _ j _ => by
  show okq (if i = j then y i else 0) = true
  split
  ·exact (ys i).1
  ·decide +kernel) (fun i _ j _ => fo i j) (fun i hi j hj => by rw [es i hi j hj]; exact eo i j)
 rw [mkR_congr es] at h2
 have kd : okq (dR n f) = true := ((dR_ht (a := 3) n1 fun i _ j _ => (fs i j).ht).mono (show 64 * 3 + 23 ≤ 215 by omega)).ok (by omega)
 have det : ∀ {F : Nat → Nat → Rat}, (∀ i, i < n → ∀ j, j < n → okq (F i j) = true) → dR n F = dR n f → detE (mkR n n F).fr = (⟨(Fr.of (dR n f)).n, (Fr.of (dR n f)).d⟩, 0) := fun h1 h2 => by rw [detE_mk n1 h1, h2, wr_yes kd]
 have ln : ∀ {r k : Nat} {F : Nat → Nat → Rat}, (mkR r k F).fr.length = r := by intro r k F; rw [fr_len, mkR_len]
 have hd : ∀ {r k : Nat} {F : Nat → Nat → Rat}, (1 ≤ r ∧ r ≤ 4) → (1 ≤ k ∧ k ≤ 4) → (∀ i j, okq (F i j) = true) → ((mkR r k F).fr.headD []).length = k := fun a b h => head_RM (ok_mk a b fun i _ j _ => h i j)
 have mu : ∀ {A B : List (List Fr)} {r k : Nat} {F : Nat → Nat → Rat}, mulE A B = 0 → mulM A B = (mkR r k F).fr → MuC A B r (mkR r k F).fr := fun h1 h2 a b W x y z => (mul_yes h1 h2 a b W x y z).mono fun _ _ q => q.n ln
 have tr : ∀ {r k : Nat} {F : Nat → Nat → Rat}, (1 ≤ r ∧ r ≤ 4) → (1 ≤ k ∧ k ≤ 4) → (∀ i j, okq (F i j) = true) → TrC (mkR r k F).fr k (mkR k r fun i j => F j i).fr := fun a b h x W y => (trans_yes (trans_mk a b fun i _ j _ => h i j).1 (trans_mk a b fun i _ j _ => h i j).2 x W y).mono fun _ _ q => q.n ln
 have rl : ∀ {n : Nat} {x : Nat → Rat}, (((List.range n).map x).map Fr.of).length = n := by intro n x; simp
 have hf00 : Fra.mulF (Fr.of (y 0)) (Fr.of (f 0 0)) = (Fr.of (y 0 * f 0 0), 0) := by unfold mulF; rw [bin_some (rd_of (ys 0).1) (rd_of (fo 0 0)), wr_yes (eo 0 0)]
 have T5 := tr (F := fun i _ => z i) n1 o1 fun i _ => zok i
 rw [← fr_row z] at T5
 have T4 := tr (F := fun _ j => x j) o1 k1 fun _ j => (xs j).1
 rw [← fr_row x] at T4
 rw [← hz] at d2
 have c3 : mulM (mkR n k f).fr (mkR k 1 fun i _ => x i).fr = (mkR n 1 fun i _ => z i).fr := by rw [c2', hz]
 refine turns_main r c r1 c1 v v1 n k m n _ _ _ _ _ _ _ _ (mkR n k f).fr (mkR k m g).fr (mkR n m p).fr (mkR m n fun i j => p j i).fr (mkR k n fun i j => f j i).fr (mkR m k fun i j => g j i).fr (mkR k 1 fun i _ => x i).fr (mkR n 1 fun i _ => z i).fr (mkR n n f).fr (mkR n n fun i j => f j i).fr (mkR n n fun i j => if i = j then y i else 0).fr (mkR n n fun i j => y i * f i j).fr (((List.range k).map x).map Fr.of) (((List.range n).map z).map Fr.of) (((List.range 1).map y).map Fr.of) (((List.range n).map y).map Fr.of) w ht he hv hv1
  n1.1 n1.1 ln (hd n1 k1 fo) ⟨_, rfl, rl⟩ ln (hd n1 n1 fo) (head2 n1 n1 f) ln (hd n1 n1 eo) (head2 n1 n1 _) rl rfl
  (Lib.hid (mat_G (G := G) hr hc hv n k hn hk _ fun W hW => by rw [hf]; exact sized_G hG hv n k n1.2 k1.2 W hW))
  (Lib.hid (mat_G (G := G1) hc hc1 hv1 k m hk hm _ fun W hW => by rw [hg]; exact sized_G hG1 hv1 k m k1.2 m1.2 W hW))
  (Lib.hid (mu a1 a2)) (Lib.hid (tr n1 m1 po)) (Lib.hid (tr n1 k1 fo)) (Lib.hid (tr k1 m1 go)) (Lib.hid (mu b1 b2)) (Lib.hid (tr (F := fun i j => f j i) k1 n1 fun i j => fo j i))
  (Lib.hid fun W hW => by rw [hx]; exact list_G hG1 hv1 k (by omega) W hW) (Lib.hid T4) (Lib.hid (mu c1' c3)) (Lib.hid fun a b W h1 h2 h3 => (app_yes d1 d2 a b W h1 h2 h3).mono fun _ _ h => h.n rl) (Lib.hid T5)
  (Lib.hid (square_G (c := c) (G := G) hr hv n hn (mkR n n f) fun W hW => by rw [hf]; exact sized_G hG hv n n n1.2 n1.2 W hW)) (Lib.hid (tr n1 n1 fo)) (Lib.hid (det_is (det (fun i _ j _ => fo i j) rfl))) (Lib.hid (det_is (det (F := fun i j => f j i) (fun i _ j _ => fo j i) (dR_turn n1 f))))
  (Lib.hid fun W hW => by rw [hy]; exact list_G hG hv n (by omega) W hW) (Lib.hid fun b W h => (diag_yes e1 e2 b W h).mono fun _ _ q => q.n ln) (Lib.hid (mu h1 h2)) (Lib.hid fun W hW => by rw [hy]; exact list_G hG hv 1 (by omega) W hW) (Lib.hid fun W hW => ?_)
 have := frac.Mul_ok (Fr.of (y 0)) (Fr.of (f 0 0)) W hW
 rw [hf00] at this
 exact this
end Go.Proofs.verdigrislaw05
