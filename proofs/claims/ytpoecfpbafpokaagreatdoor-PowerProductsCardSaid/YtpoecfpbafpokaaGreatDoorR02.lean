/- Lemmas for the proof. No condition. -/
import Derived.Test.YtpoecfpbafpokaaGreatDoorR01
import Derived.RegionTactic
import Derived.ChangeSame
import Derived.ChangeVars
import Derived.ChangeArms
import Derived.ChangeMaps5
import Derived.Carry
import Derived.Deep.Cut
set_option linter.unusedVariables false
set_option linter.unusedSimpArgs false
namespace Go.Proofs.verdigrisref01
open Go Go.RowKit Go.SW Go.Num Go.Mem Go.Proofs
theorem sgd_div {a b : Int} (hb : 0 < b) (h : 0 ≤ a ∨ b ∣ a) : sgd (a.natAbs / b.natAbs) (decide (a < 0)) = a / b ∧ sgd (a.natAbs % b.natAbs) (decide (a < 0)) = a % b ∧ 0 ≤ a % b := by
 have hm := Int.emod_nonneg a (show b ≠ 0 by omega)
 rcases h with h | h
 ·have h1 : ¬ a < 0 := by omega
  unfold sgd
  simp only [h1, decide_false, Bool.false_eq_true, if_false]
  obtain ⟨x, rfl⟩ := Int.eq_ofNat_of_zero_le h
  obtain ⟨y, rfl⟩ := Int.eq_ofNat_of_zero_le (Int.le_of_lt hb)
  simp only [Int.natAbs_natCast]
  exact ⟨by rw [Int.natCast_ediv], by rw [Int.natCast_emod], hm⟩
 ·have e1 : a % b = 0 := Int.emod_eq_zero_of_dvd h
  have e2 : a.natAbs % b.natAbs = 0 := Nat.mod_eq_zero_of_dvd (Int.natAbs_dvd_natAbs.2 h)
  refine ⟨?_, by rw [e1, e2]; unfold sgd; simp, hm⟩
  obtain ⟨c, rfl⟩ := h
  have h2 := sgd_quot (z := b * c) (y := b) ⟨c, rfl⟩
  have h3 : ¬ b < 0 := by omega
  simpa [h3] using h2
def Parts2Post (w : World) (q r : Int) (e : Ending) (w' : World) : Prop := ∃ x y, e = .returned (.tuple #[x, y]) ∧ Below w.heap.size w w' ∧ Pl w' x q ∧ Pl w' y r
set_option maxRecDepth 10000 in
set_option maxHeartbeats 2000000 in
theorem Parts_ok (x y : Value) (a b : Int) (w : World) (hx : Pl w x a) (hy : Pl w y b) (ha : sz 10000 a.natAbs ≤ 274877906944) (hb : sz 10000 b.natAbs ≤ 274877906944) (hb0 : 0 < b) (hd : 0 ≤ a ∨ b ∣ a) :
  Calls Tryz.prog 149 #[x, y] w (Parts2Post w (a / b) (a % b)) := by
 obtain ⟨bA, paA, lA, caA, rfl⟩ := hx.agg
 obtain ⟨bB, paB, lB, caB, rfl⟩ := hy.agg
 obtain ⟨nA, eA⟩ := hx.nm
 obtain ⟨nB, eB⟩ := hy.nm
 have hbf : bB = false := by rw [eB]; simp; omega
 subst hbf
 obtain ⟨s1, s2, s3⟩ := sgd_div hb0 hd
 rw [← eA] at s1 s2
 have NAn := Lib.hid nA
 have NBn := Lib.hid nB
 have KA := Lib.hid ha
 have KB := Lib.hid hb
 have H0 : Hid (0 < b.natAbs) := Lib.hid (by omega)
 have HS1 := Lib.hid s1
 have HS2 := Lib.hid s2
 have HS3 := Lib.hid s3
 clear hx hy ha hb hb0 hd nA nB eA eB s1 s2 s3
 go_enter Tryz.func149, Tryz.ntmps149
 go_wp2_with fail
 obtain ⟨wq1, EW, hz, X1, X2, X3, X4⟩ := al4 w #[.bool bA, .slice paA lA caA] 95 #[.bool false, .slice paB lB caB] 95 #[.bool false, .slice none 0 0] 95 #[.bool false, .slice none 0 0] 95
 rw [EW]
 replace NAn := Lib.hid (NAn.out.later hz)
 have hk2 := Bt (Below.refl _ _) hz
 clear EW hz
 refine (parts_ok _ _ _ _ _ NAn.out (NBn.out.later hk2) H0.out KA.out KB.out).mono ?_
 rintro e wc3 ⟨q, r, rfl, hb3, hq, hr⟩
 obtain ⟨paQ, lQ, caQ, rfl⟩ := hq.slice
 obtain ⟨paR, lR, caR, rfl⟩ := hr.slice
 replace NAn := Lib.hid (NAn.out.later hb3)
 replace X1 := Lib.hid (X1.out.later hb3)
 replace X2 := Lib.hid (X2.out.later hb3)
 replace X3 := Lib.hid (X3.out.later hb3)
 replace X4 := Lib.hid (X4.out.later hb3)
 have hk5 := Bt hk2 hb3
 clear hk2
 have NQ := Lib.hid hq
 have NR := Lib.hid hr
 clear hb3 hq hr
 have HL4 := Lib.hid X4.out.lt
 go_wp2_with fail
 have cX1 := X1.out.cell; have lX1 := X1.out.lt; have fX1 := X1.out.free
 have cX2 := X2.out.cell; have lX2 := X2.out.lt; have fX2 := X2.out.free
 refine wp_region_walk [(.pure, 0), (.read, 1), (.pure, 2), (.read, 3), (.pure, 4), (.pure, 5), (.pure, 7), (.read, 8), (.pure, 9), (.ext, 6), (.ext, 10), (.alloc #[.bool false, .slice none 0 0] 95, 11), (.alloc #[.bool false, .slice none 0 0] 95, 12), (.fin, 13), (.fin, 14)] (by kernel_rfl) (by kernel_rfl) (allocRuns_of (by kernel_rfl)) (fun _ _ _ _ hd h => And.intro (hd.trans (And.left h)) (And.right h)) ?_
 repeat (first | (refine walk_pure0 rfl rfl (fun J hJ => ?_); go_simp; refine hJ _ ?_; clear hJ J) | (refine walk_load rfl rfl rfl rfl (fun J hJ => ?_); go_simp; refine hJ _ ?_; clear hJ J; try go_simp))
 refine walk_ext rfl rfl (fun we6 hb6 J hJ => ?_); go_simp
 have hh6 : Below wc3.heap.size wc3 we6 := belA
 clear hb6
 refine (made_nm _ _ _ _ _ (NQ.out.later hh6) HS1.out).mono ?_
 rintro e wc7 ⟨v, rfl, hb7, hv8⟩
 obtain ⟨bU, paU, lU, caU, rfl⟩ := hv8.agg
 refine hJ _ _ hb7 ?_
 clear hJ J
 have hh7 := Bt hh6 hb7
 have NU := Lib.hid hv8
 clear hh6 hb7 hv8
 repeat (first | (refine walk_pure0 rfl rfl (fun J hJ => ?_); go_simp; refine hJ _ ?_; clear hJ J) | (refine walk_load rfl rfl rfl rfl (fun J hJ => ?_); go_simp; refine hJ _ ?_; clear hJ J; try go_simp))
 refine walk_ext rfl rfl (fun we9 hb9 J hJ => ?_); go_simp
 have hh9 : Below wc3.heap.size wc3 we9 := Bt hh7 belA
 replace NU := Lib.hid (NU.out.later (show Below wc7.heap.size wc7 we9 from belA))
 clear hb9 hh7
 refine (made_nm _ _ _ _ _ (NR.out.later hh9) HS2.out).mono ?_
 rintro e wc10 ⟨v, rfl, hb10, hv⟩
 obtain ⟨bV, paV, lV, caV, rfl⟩ := hv.agg
 have hbv : bV = false := hv.nm.2.trans (decide_eq_false (by have := HS3.out; omega))
 subst hbv
 refine hJ _ _ hb10 ?_
 clear hJ J
 have hh10 := Bt hh9 hb10
 replace NU := Lib.hid (NU.out.later hb10)
 have NV := Lib.hid hv
 clear hh9 hb10 hv
 repeat (first | (refine walk_pure0 rfl rfl (fun J hJ => ?_); go_simp; refine hJ _ ?_; clear hJ J) | (refine walk_load rfl rfl rfl rfl (fun J hJ => ?_); go_simp; refine hJ _ ?_; clear hJ J; try go_simp))
 refine walk_alloc rfl (fun bk12 wa12 hwa12 hNbk12 hltbk12 hAbk12 hxbk12 => ?_); go_simp; replace hxbk12 : Box _ _ _ _ := hxbk12; have hWbk12 : w.heap.size ≤ bk12 := (by first | omega | exact Nat.le_trans (Below.size (B := w.heap.size) belA) hNbk12)
 refine walk_alloc rfl (fun bk13 wa13 hwa13 hNbk13 hltbk13 hAbk13 hxbk13 => ?_); go_simp; replace hxbk13 : Box _ _ _ _ := hxbk13; have hWbk13 : w.heap.size ≤ bk13 := (by first | omega | exact Nat.le_trans (Below.size (B := w.heap.size) belA) hNbk13)
 replace hxbk12 := Box.later hxbk12 hwa13
 have hne : bk12 ≠ bk13 := fun h => hAbk13 (by simp [h])
 have hne2 : bk13 ≠ bk12 := fun h => hne h.symm
 refine walk_fin [_, _] rfl (fun wf14 hf14 => ?_)
 replace NU := Lib.hid (NU.out.later (show Below wc10.heap.size wc10 wf14 from belA))
 replace NV := Lib.hid (NV.out.later (show Below wc10.heap.size wc10 wf14 from belA))
 have hh14 : Below wc3.heap.size wc3 wf14 := Bt hh10 belA
 have hq0 := hxbk12.later hf14; have cq0 := hq0.cell; have fq0 := hq0.free
 have hq1 := hxbk13.later hf14; have cq1 := hq1.cell; have fq1 := hq1.free
 clear hxbk12 hxbk13 hf14 hh10
 clear cX1 lX1 fX1 cX2 lX2 fX2
 go_wp2_with fail
 obtain ⟨wq15, EW⟩ : ∃ y, ((((wf14.setCell ⟨bk12, 0, none⟩ (.bool bU)).setCell ⟨bk12, 1, none⟩ (.slice paU lU caU)).setCell ⟨bk13, 0, none⟩ (.bool false)).setCell ⟨bk13, 1, none⟩ (.slice paV lV caV)) = y := ⟨_, rfl⟩
 have hz : Below wc3.heap.size wc3 wq15 := by rw [← EW]; exact ((((hh14.setCell hNbk12 _).setCell hNbk12 _).setCell hNbk13 _).setCell hNbk13 _)
 have X5 : Hid (Box wq15 bk12 #[.bool bU, .slice paU lU caU] 95) := Lib.hid (by rw [← EW]; exact ((((hq0.set 0 _).set 1 _).setOther _ (by first | exact hne | exact hne2)).setOther _ (by first | exact hne | exact hne2)))
 have X6 : Hid (Box wq15 bk13 #[.bool false, .slice paV lV caV] 95) := Lib.hid (by rw [← EW]; exact ((((hq1.setOther _ (by first | exact hne | exact hne2)).setOther _ (by first | exact hne | exact hne2)).set 0 _).set 1 _))
 have t := ((((NU.out.setOther hq0 (by decide) 0 (.bool bU)).setOther (hq0.set 0 _) (by decide) 1 (.slice paU lU caU)).setOther ((hq1.setOther _ (by first | exact hne | exact hne2)).setOther _ (by first | exact hne | exact hne2)) (by decide) 0 (.bool false)).setOther (((hq1.setOther _ (by first | exact hne | exact hne2)).setOther _ (by first | exact hne | exact hne2)).set 0 _) (by decide) 1 (.slice paV lV caV))
 rw [EW] at t
 replace NU := Lib.hid t
 clear t
 have t := ((((NV.out.setOther hq0 (by decide) 0 (.bool bU)).setOther (hq0.set 0 _) (by decide) 1 (.slice paU lU caU)).setOther ((hq1.setOther _ (by first | exact hne | exact hne2)).setOther _ (by first | exact hne | exact hne2)) (by decide) 0 (.bool false)).setOther (((hq1.setOther _ (by first | exact hne | exact hne2)).setOther _ (by first | exact hne | exact hne2)).set 0 _) (by decide) 1 (.slice paV lV caV))
 rw [EW] at t
 replace NV := Lib.hid t
 clear t
 rw [EW]
 clear EW hq0 cq0 fq0 hq1 cq1 fq1 hh14
 clear NAn
 replace X1 := Lib.hid (X1.out.later hz)
 replace X2 := Lib.hid (X2.out.later hz)
 replace X3 := Lib.hid (X3.out.later hz)
 replace X4 := Lib.hid (X4.out.later hz)
 replace NQ := Lib.hid (NQ.out.later hz)
 replace NR := Lib.hid (NR.out.later hz)
 have hk16 := Bt hk5 hz
 clear hk5
 clear hz
 clear hwa12 hAbk12 hAbk13 hWbk12 hWbk13 hwa13
 have hlbk12 := hNbk12; have hlbk13 := hNbk13; clear hNbk12 hNbk13 hltbk12 hltbk13
 have c5 := X5.out.cell
 have c6 := X6.out.cell
 have c3 := X3.out.cell
 have c4 := X4.out.cell
 have f3 := X3.out.free
 have f4 := X4.out.free
 have hl4 := HL4.out
 have n1 : bk13 ≠ w.heap.size + 1 + 1 := by omega
 have n2 : bk13 ≠ w.heap.size + 1 + 1 + 1 := by omega
 have n3 : bk12 ≠ w.heap.size + 1 + 1 := by omega
 have n4 : bk12 ≠ w.heap.size + 1 + 1 + 1 := by omega
 have h3 := X3.out
 have h4 := X4.out
 clear X1 X2 X5 X6 NQ NR HS1 HS2 HS3 H0 KA KB NBn hne hne2 hl4 HL4 hlbk12 hlbk13
 go_region
 go_wp2_with fail
 have h4b := (h4.setOther (a := ⟨w.heap.size + 1 + 1, 0, none⟩) (.bool bU) (by simp)).setOther (a := ⟨w.heap.size + 1 + 1, 1, none⟩) (.slice paU lU caU) (by simp)
 have h3b := (((h3.set 0 (.bool bU)).set 1 (.slice paU lU caU)).setOther (a := ⟨w.heap.size + 1 + 1 + 1, 0, none⟩) (.bool false) (by simp)).setOther (a := ⟨w.heap.size + 1 + 1 + 1, 1, none⟩) (.slice paV lV caV) (by simp)
 have hU := (NU.out.set2 h3 (by decide) 0 1 (.bool bU) (.slice paU lU caU)).set2 h4b (by decide) 0 1 (.bool false) (.slice paV lV caV)
 have hV := (NV.out.set2 h3 (by decide) 0 1 (.bool bU) (.slice paU lU caU)).set2 h4b (by decide) 0 1 (.bool false) (.slice paV lV caV)
 refine ret_cc rfl rfl (Box.drew h3b) Tryz.underlying95 rfl (by kernel_rfl) rfl (Box.drew ((h4b.set 0 (.bool false)).set 1 (.slice paV lV caV))) Tryz.underlying95 rfl (by kernel_rfl) ?_
 exact ⟨_, _, rfl, belA, hU.later (Below.drew (Below.refl _ _)), hV.later (Below.drew (Below.refl _ _))⟩
end Go.Proofs.verdigrisref01
namespace Go.Proofs.verdigrisref01
open Go Go.RowKit Go.SW Go.Num Go.Mem Go.Proofs Go.Dec
set_option maxRecDepth 10000 in
set_option maxHeartbeats 1000000 in
theorem four_ok (d : Nat) (hd : d < 10000) (w : World) :
  Calls Tryz.prog 146 #[.int .i64 (d : Int)] w fun e w' => e = .returned (.string ⟨(pad 4 d).toArray⟩) ∧ Below w.heap.size w w' := by
 have hp : pad 4 d = [UInt8.ofNat (48 + d / 1000), UInt8.ofNat (48 + d / 100 % 10), UInt8.ofNat (48 + d / 10 % 10), UInt8.ofNat (48 + d % 10)] := by
  simp only [pad, List.nil_append, List.cons_append]
  rw [show d / 10 / 10 / 10 % 10 = d / 1000 by omega, show d / 10 / 10 % 10 = d / 100 % 10 by omega]
 have hb : ∀ x : Nat, x < 10 → ((UInt8.ofNat (48 + x)).toNat : Int) = 48 + (x : Int) := fun x hx => by
  rw [byte_digit hx]; omega
 have e1 := hb (d / 1000) (by omega)
 have e2 := hb (d / 100 % 10) (by omega)
 have e3 := hb (d / 10 % 10) (by omega)
 have e4 := hb (d % 10) (by omega)
 have hcv : (convert 208 9 (.slice (some ⟨w.heap.size, 0, none⟩) 4 4)).run Tryz.prog (w.alloc (.cells #[.int .u8 (48 + (d : Int) / 1000), .int .u8 (48 + (d : Int) / 100 % 10), .int .u8 (48 + (d : Int) / 10 % 10), .int .u8 (48 + (d : Int) % 10)] 5))
   = .ok (.string ⟨(pad 4 d).toArray⟩) (w.alloc (.cells #[.int .u8 (48 + (d : Int) / 1000), .int .u8 (48 + (d : Int) / 100 % 10), .int .u8 (48 + (d : Int) / 10 % 10), .int .u8 (48 + (d : Int) % 10)] 5)) := by
  have hx := Box.new w #[.int .u8 (48 + (d : Int) / 1000), .int .u8 (48 + (d : Int) / 100 % 10), .int .u8 (48 + (d : Int) / 10 % 10), .int .u8 (48 + (d : Int) % 10)] 5
  have hl := pad_length 4 d
  have := run_convert_bytes_back (P := Tryz.prog) (w.alloc (.cells #[.int .u8 (48 + (d : Int) / 1000), .int .u8 (48 + (d : Int) / 100 % 10), .int .u8 (48 + (d : Int) / 10 % 10), .int .u8 (48 + (d : Int) % 10)] 5)) 208 9 5 ⟨w.heap.size, 0, none⟩ 4 (pad 4 d) Tryz.underlying208 Tryz.underlying5 Tryz.underlying9 (fun j hj => by
   rw [Addr.add_lit, hx.cell, Nat.zero_add]
   rw [hl] at hj
   match j, hj with
   | 0, _ => simp only [hp, List.getElem_cons_zero, e1]; rfl
   | 1, _ => simp only [hp, List.getElem_cons_zero, List.getElem_cons_succ, e2]; rfl
   | 2, _ => simp only [hp, List.getElem_cons_zero, List.getElem_cons_succ, e3]; rfl
   | 3, _ => simp only [hp, List.getElem_cons_zero, List.getElem_cons_succ, e4]; rfl)
  rwa [hl] at this
 obtain ⟨B, EB⟩ : ∃ B : ByteArray, Hid ((⟨(pad 4 d).toArray⟩ : ByteArray) = B) := ⟨_, Lib.hid rfl⟩
 rw [EB.out] at hcv ⊢
 clear e1 e2 e3 e4 hb hp EB
 go_enter Tryz.func146, Tryz.ntmps146
 go_wp2
 go_ret
 exact ⟨rfl, belA⟩
/-- The text of digits: four each, the highest first. -/
def txt : List Nat → List UInt8
 | [] => []
 | d :: l => txt l ++ pad 4 d
theorem txt_drop {l : List Nat} {i : Nat} (h : i < l.length) : txt (l.drop i) = txt (l.drop (i + 1)) ++ pad 4 (l.getD i 0) := by
 rw [drop_getD h]
 rfl
theorem txt_dec : ∀ {l : List Nat}, Dig 10000 l → Top l → l ≠ [] → ∃ m, txt l = List.replicate m 48 ++ Lib.decDigits (val 10000 l)
 | [], _, _, h => absurd rfl h
 | d :: l, hd, ht, _ => by
  by_cases hl : l = []
  ·subst hl
   refine ⟨4 - (Lib.decDigits d).length, ?_⟩
   have h1 := dec_fill 4 d (by omega) (by have := hd.head; omega)
   show [] ++ pad 4 d = _
   rw [← h1]
   simp [val]
  ·obtain ⟨m, hm⟩ := txt_dec hd.tail ht.tail hl
   refine ⟨m, ?_⟩
   have hp := val_pos_of_top (B := 10000) (by omega) ht.tail hl
   show txt l ++ pad 4 d = _
   rw [hm, List.append_assoc, ← dec_pad 4 _ d hp (by have := hd.head; omega)]
   simp only [val]
   rw [show val 10000 l * 10 ^ 4 + d = d + 10000 * val 10000 l by omega]
theorem txt_len (l : List Nat) : (txt l).length = 4 * l.length := by
 induction l with
 | nil => rfl
 | cons d l ih => show (txt l ++ pad 4 d).length = _; rw [List.length_append, ih, pad_length, List.length_cons]; omega
end Go.Proofs.verdigrisref01
namespace Go.Proofs.verdigrisref01
open Go Go.RowKit Go.SW Go.Num Go.Mem Go.Proofs Go.Dec
theorem strip_dec {l : List Nat} {k : Nat} (hd : Dig 10000 l) (ht : Top l) (h : ∀ i, i < k → (txt l)[i]? = some 48) (hk : k < (txt l).length) (hne : (txt l)[k]? ≠ some 48) : (txt l).drop k = Lib.decDigits (val 10000 l) := by
 have hl : l ≠ [] := fun e => by subst e; cases hk
 have hp := val_pos_of_top (B := 10000) (by omega) ht hl
 obtain ⟨m, hm⟩ := txt_dec hd ht hl
 have hkm : k = m := by
  rcases Nat.lt_trichotomy k m with h1 | h1 | h1
  ·exfalso
   rw [hm, List.getElem?_append_left (by simpa using h1)] at hne
   simp [h1] at hne
  ·exact h1
  ·exfalso
   have h2 := h m h1
   rw [hm, List.getElem?_append_right (by simp)] at h2
   simp only [List.length_replicate, Nat.sub_self] at h2
   have := dec_head (n := val 10000 l) (by rw [List.head?_eq_getElem?]; exact h2)
   omega
 subst hkm
 rw [hm, List.drop_append_of_le_length (by simp), List.drop_of_length_le (by simp), List.nil_append]
theorem strip_all {l : List Nat} (hd : Dig 10000 l) (ht : Top l) (h : ∀ i, i < (txt l).length → (txt l)[i]? = some 48) : val 10000 l = 0 := by
 by_cases hl : l = []
 ·subst hl; rfl
 ·exfalso
  have hp := val_pos_of_top (B := 10000) (by omega) ht hl
  obtain ⟨m, hm⟩ := txt_dec hd ht hl
  have h2 := h m (by rw [hm, List.length_append, List.length_replicate]; have := dec_len_pos (val 10000 l); omega)
  rw [hm, List.getElem?_append_right (by simp)] at h2
  simp only [List.length_replicate, Nat.sub_self] at h2
  have := dec_head (n := val 10000 l) (by rw [List.head?_eq_getElem?]; exact h2)
  omega
theorem ba_eq {a b : ByteArray} (h : a.data.toList = b.data.toList) : a = b := by
 cases a; cases b
 simp only at h
 rw [Array.toList_inj.1 h]
theorem itoa_abs (z : Int) : Lib.itoa z = if z < 0 then 45 :: Lib.decDigits z.natAbs else Lib.decDigits z.natAbs := by
 unfold Lib.itoa
 by_cases h : z < 0
 ·rw [if_pos h, if_pos h]
 ·rw [if_neg h, if_neg h, show z.toNat = z.natAbs by omega]
theorem extract_list (S : ByteArray) (k : Nat) : (S.extract k S.size).data.toList = S.data.toList.drop k := by
 have h : S.size = S.data.toList.length := rfl
 rw [ByteArray.data_extract, Array.toList_extract]
 unfold List.extract
 rw [List.take_of_length_le (by rw [List.length_drop, h]; exact Nat.le_refl _)]
set_option maxRecDepth 10000 in
set_option maxHeartbeats 2000000 in
theorem Text_ok (x : Value) (z : Int) (w : World) (hx : Pl w x z) (hs : sz 10000 z.natAbs ≤ 1073741824) :
  Calls Tryz.prog 104 #[x] w (fun e w' => e = .returned (.string ⟨(Lib.itoa z).toArray⟩) ∧ Below w.heap.size w w') := by
 obtain ⟨bA, paA, lA, caA, rfl⟩ := hx.agg
 obtain ⟨hn, hbz⟩ := hx.nm
 obtain ⟨l, El⟩ : ∃ l, digs 10000 z.natAbs = l := ⟨_, rfl⟩
 obtain ⟨pa', ca', e, k1, k2, k3⟩ := hn.read
 simp only [Value.slice.injEq] at e
 obtain ⟨rfl, rfl, rfl⟩ := e
 rw [El] at k3
 have hl : l.length = sz 10000 z.natAbs := by rw [← El]; rfl
 have hdl : Dig 10000 l := by rw [← El]; exact dig_digs (by omega) _
 have htl : Top l := by rw [← El]; exact top_digs (by omega) _
 have hvl : val 10000 l = z.natAbs := by rw [← El]; exact val_digs (by omega) _
 obtain ⟨L, EL⟩ : ∃ L, sz 10000 z.natAbs = L := ⟨_, rfl⟩
 rw [EL] at hl hs k1 k3 ⊢
 have h0 : Below w.heap.size w (w.alloc (.cells #[.bool bA, .slice paA L caA] 95)) := belA
 have hbx := Box.new w #[.bool bA, .slice paA L caA] 95
 obtain ⟨W, EW⟩ : ∃ y, w.alloc (.cells #[.bool bA, .slice paA L caA] 95) = y := ⟨_, rfl⟩
 rw [EW] at h0 hbx
 have k4 : ∀ k, k < L → ∃ b off, paA = some ⟨b, off, none⟩ ∧ b < W.heap.size ∧ W.cell? ⟨b, off + k, none⟩ = some (.int .i64 (l.getD k 0 : Nat)) := fun k hk => by
  obtain ⟨b, off, e, h1, h2⟩ := k3 k hk
  exact ⟨b, off, e, Nat.lt_of_lt_of_le h1 h0.size, (h0.cell (by exact h1)).trans h2⟩
 have K4 := Lib.hid k4
 have HX := Lib.hid hbx
 have HL := Lib.hid hl
 have HDL := Lib.hid hdl
 have HTL := Lib.hid htl
 have HVL := Lib.hid hvl
 have HBZ := Lib.hid hbz
 have c0 := hbx.cell
 clear k3 k4 hbx hl hdl htl hvl hbz hn hx EL El
 go_enter Tryz.func104, Tryz.ntmps104
 go_wp2_with fail
 clear EW c0
 go_loopw [3, 4] (fun sv iv wr => ∃ (q : Int) (S : ByteArray), -1 ≤ q ∧ q < L ∧ iv = .int .i64 q ∧ sv = .string S ∧ Hid (S.data.toList = txt (l.drop (q + 1).toNat)) ∧ Hid (Below W.heap.size W wr)) (fun _ iv _ => (intOf iv + 1).toNat)
 case atStart =>
  have e : ((L : Int) - 1 + 1).toNat = l.length := by have := HL.out; omega
  exact ⟨(L : Int) - 1, ⟨#[]⟩, by omega, by omega, rfl, rfl, Lib.hid (by rw [e, List.drop_length]; rfl), Lib.hid (Below.refl _ _)⟩
 case round =>
  obtain ⟨q, S, hq1, hq2, rfl, rfl, HS, HB⟩ := hrel
  have hbx := HX.out.later HB.out
  have c0 := hbx.cell
  by_cases hq : q < 0
  ·have hq0 : q = -1 := by omega
   subst hq0
   have hS : S.data.toList = txt l := by have := HS.out; simpa using this
   have HS2 := Lib.hid hS
   clear hS HS
   have hsz : S.size = 4 * L := by
    have h1 : S.size = S.data.toList.length := rfl
    rw [h1, HS2.out, txt_len, HL.out]
   go_wp2_with fail
   go_loop [5] (fun kv => ∃ k : Nat, k ≤ S.size ∧ kv = .int .i64 k ∧ Hid (∀ i, i < k → S.data.toList[i]? = some 48)) (fun kv => S.size - (intOf kv).toNat)
   case atStart => exact ⟨0, Nat.zero_le _, rfl, Lib.hid fun i hi => by cases hi⟩
   case round =>
    obtain ⟨k, hk, rfl, HK⟩ := hrel
    by_cases hks : k < S.size
    ·have hg : (txt l)[k]? = some S[k] := by
      rw [← HS2.out]
      exact List.getElem?_eq_getElem (by exact hks)
     by_cases h48 : S[k] = 48
     ·have e : ((S[k].toNat : Int) == 48) = true := by rw [h48]; rfl
      have HK1 : Hid (∀ i, i < k + 1 → S.data.toList[i]? = some 48) := Lib.hid fun i hi => by
       by_cases hik : i < k
       ·exact HK.out i hik
       ·obtain rfl : i = k := by omega
        rw [HS2.out, hg, h48]
      clear hg h48
      go_wp2_with fail
      go_round
      case rel => exact ⟨k + 1, by omega, by go_num, HK1⟩
      case measure => simp [intOf]; omega
     ·have e : ((S[k].toNat : Int) == 48) = false := by
       rw [beq_eq_false_iff_ne]
       intro h
       have hk48 : S[k].toNat = 48 := by omega
       exact h48 (UInt8.toNat_inj.1 (by rw [hk48]; rfl))
      have hdrop := strip_dec HDL.out HTL.out (fun i hi => by rw [← HS2.out]; exact HK.out i hi) (by rw [← HS2.out]; exact hks) (by rw [hg]; intro h; exact h48 (Option.some.inj h))
      have hT : (S.extract k (4 * L)).data.toList = Lib.decDigits z.natAbs := by
       rw [← hsz, extract_list, HS2.out, hdrop, HVL.out]
      have hE : (S.extract k (4 * L)).toList.isEmpty = false := by
       rw [ByteArray.toList_eq, hT]
       have := dec_len_pos z.natAbs
       cases h : Lib.decDigits z.natAbs with
       | nil => rw [h] at this; cases this
       | cons a b => rfl
      have HT := Lib.hid hT
      clear hdrop hT hg h48 HK
      cases bA
      ·have hz : ¬ z < 0 := by have := HBZ.out; intro h; rw [decide_eq_true h] at this; cases this
       have eS : S.extract k (4 * L) = ⟨(Lib.itoa z).toArray⟩ := ba_eq (by rw [HT.out, itoa_abs, if_neg hz])
       have ES := Lib.hid eS
       clear eS hz
       go_wp2_with fail
       go_ret
       exact ⟨congrArg (fun s => Ending.returned (.string s)) ES.out, Bt h0 HB.out⟩
      ·have hz : z < 0 := of_decide_eq_true HBZ.out.symm
       have eS : (⟨#[45]⟩ : ByteArray) ++ S.extract k (4 * L) = ⟨(Lib.itoa z).toArray⟩ := ba_eq (by
        rw [itoa_abs, if_pos hz, ByteArray.data_append, Array.toList_append, HT.out]
        rfl)
       have ES := Lib.hid eS
       have hsm : ¬ 9223372036854775807 < 1 + (S.extract k (4 * L)).size := by
        have h1 : (S.extract k (4 * L)).size = (S.extract k (4 * L)).data.toList.length := rfl
        have h2 := HT.out
        rw [← hsz, extract_list] at h2
        have h3 : (S.extract k (4 * L)).data.toList.length ≤ S.data.toList.length := by
         rw [← hsz, extract_list, List.length_drop]
         omega
        have h4 : S.data.toList.length = S.size := rfl
        omega
       clear eS hz
       go_wp2_with fail
       go_ret
       exact ⟨congrArg (fun s => Ending.returned (.string s)) ES.out, Bt h0 HB.out⟩
    ·have hke : k = S.size := by omega
     subst hke
     have hz0 : z.natAbs = 0 := by
      rw [← HVL.out]
      exact strip_all HDL.out HTL.out fun i hi => by
       rw [← HS2.out] at hi ⊢
       exact HK.out i hi
     have hz : z = 0 := by omega
     have EZ : Hid ((⟨#[48]⟩ : ByteArray) = ⟨(Lib.itoa z).toArray⟩) := Lib.hid (by rw [hz]; exact ba_eq (by rw [itoa_abs]; simp [dec_small]))
     clear hz hz0 HK
     go_wp2_with fail
     go_ret
     exact ⟨congrArg (fun s => Ending.returned (.string s)) EZ.out, Bt h0 HB.out⟩
  ·obtain ⟨j, rfl⟩ := Int.eq_ofNat_of_zero_le (by omega : 0 ≤ q)
   have ej : ((j : Int) + 1).toNat = j + 1 := by omega
   rw [ej] at HS
   obtain ⟨b, off, rfl, hb1, hc1⟩ := K4.out j (by omega)
   have hcj : wr.cell? ⟨b, off + j, none⟩ = some (.int .i64 (l.getD j 0 : Nat)) := (HB.out.cell (by exact hb1)).trans hc1
   have hdj := HDL.out.getD (by omega) j
   have HST : Hid (txt (l.drop j) = S.data.toList ++ pad 4 (l.getD j 0)) := Lib.hid (by rw [HS.out]; exact txt_drop (by rw [HL.out]; omega))
   have HSL : Hid (S.data.toList.length = 4 * (L - (j + 1))) := Lib.hid (by rw [HS.out, txt_len, List.length_drop, HL.out])
   clear HS hc1
   generalize l.getD j 0 = d at *
   have HF := Lib.hid (four_ok d hdj)
   have hsum : ¬ 9223372036854775807 < S.size + (pad 4 d).length := by
    have h1 : S.size = S.data.toList.length := rfl
    rw [pad_length, h1, HSL.out]
    omega
   go_wp2_with fail
   refine (HF.out _).mono ?_
   rintro e w1 ⟨rfl, hb⟩
   have HB1 := Lib.hid (Bt HB.out hb)
   clear hb hbx c0 hcj
   go_wp2_with fail
   go_roundw
   case rel =>
    have e1 : ((j : Int) - 1 + 1).toNat = j := by omega
    exact ⟨(j : Int) - 1, S ++ ⟨(pad 4 d).toArray⟩, by omega, by omega, rfl, rfl, Lib.hid (by rw [e1, HST.out]; simp), HB1⟩
   case measure => simp [intOf]
end Go.Proofs.verdigrisref01
namespace Go.Proofs.verdigrisref01
open Go Go.RowKit Go.SW Go.Num Go.Mem Go.Proofs Go.Dec
theorem dec_len_sz (n : Nat) : (Lib.decDigits n).length ≤ 4 * sz 10000 n + 1 := by
 refine dec_len_le _ _ (by omega) ?_
 have h1 := lt_pow_sz (B := 10000) (by omega) n
 have h2 : (10 : Nat) ^ (4 * sz 10000 n) = 10000 ^ sz 10000 n := by rw [Nat.pow_mul]
 rw [Nat.pow_succ, h2]
 omega
/-- A text, or that it is too long. -/
def outV (z : Int) : Value := if Fra.okn z.natAbs then .tuple #[itxt z, .int .i64 0] else .tuple #[.string ⟨#[]⟩, .int .i64 6]
theorem itoa_len (z : Int) : (Lib.itoa z).length = (Lib.decDigits z.natAbs).length + (if z < 0 then 1 else 0) := by
 rw [itoa_abs]
 by_cases h : z < 0
 ·rw [if_pos h, if_pos h]; rfl
 ·rw [if_neg h, if_neg h]; rfl
set_option maxRecDepth 10000 in
set_option maxHeartbeats 2000000 in
theorem Out_ok (x : Value) (z : Int) (w : World) (hx : Pl w x z) (hs : sz 10000 z.natAbs ≤ 1073741824) :
  Calls Tryz.prog 106 #[x] w (fun e w' => e = .returned (outV z) ∧ Below w.heap.size w w') := by
 obtain ⟨bA, paA, lA, caA, rfl⟩ := hx.agg
 obtain ⟨hn, hbz⟩ := hx.nm
 have NA := Lib.hid hx
 have hlen := itoa_len z
 have hok := Fra.okn_len (n := z.natAbs)
 obtain ⟨S, ES⟩ : ∃ S : ByteArray, Hid (S = ⟨(Lib.itoa z).toArray⟩) := ⟨_, Lib.hid rfl⟩
 have hsz : S.size = (Lib.itoa z).length := by rw [ES.out]; simp [ByteArray.size]
 have hsb : (Lib.decDigits z.natAbs).length ≤ 4294967297 := by
  have := dec_len_sz z.natAbs
  omega
 have HT := Lib.hid (fun W (hb : Below w.heap.size w W) => Text_ok _ z W (hx.later hb) hs)
 rw [← ES.out] at HT
 have hv : outV z = if (Lib.decDigits z.natAbs).length ≤ 600 then .tuple #[.string S, .int .i64 0] else .tuple #[.string ⟨#[]⟩, .int .i64 6] := by
  unfold outV
  rw [ES.out]
  by_cases h : (Lib.decDigits z.natAbs).length ≤ 600
  ·rw [if_pos h, if_pos (hok.2 h)]; rfl
  ·rw [if_neg h, if_neg (fun h' => h (hok.1 h'))]
 rw [hv]
 obtain ⟨n, En⟩ : ∃ n, (Lib.decDigits z.natAbs).length = n := ⟨_, rfl⟩
 rw [En] at hlen hsb ⊢
 rw [hlen] at hsz
 have h0 : Below w.heap.size w (w.alloc (.cells #[.bool bA, .slice paA lA caA] 95)) := belA
 have hbx := Box.new w #[.bool bA, .slice paA lA caA] 95
 have HBX := Lib.hid hbx
 have HH0 := Lib.hid h0
 by_cases hz : z < 0
 ·have hbt : bA = true := by rw [hbz, decide_eq_true hz]
  subst hbt
  rw [if_pos hz] at hsz
  clear hz hlen hok hn hbz hv En hs hx NA h0 hbx
  by_cases hbig : n ≤ 600
  ·rw [if_pos hbig]
   have e1 : ¬ (600 : Int) < (n : Int) + 1 - 1 := by omega
   go_enter Tryz.func106, Tryz.ntmps106
   go_wp2_with fail
   refine (HT.out _ HH0.out).mono ?_
   rintro e w1 ⟨rfl, hb⟩
   have c0 := (HBX.out.later hb).cell
   go_wp2_with fail
   go_ret2
   exact ⟨rfl, Bt HH0.out hb⟩
  ·rw [if_neg hbig]
   have e1 : (600 : Int) < (n : Int) + 1 - 1 := by omega
   go_enter Tryz.func106, Tryz.ntmps106
   go_wp2_with fail
   refine (HT.out _ HH0.out).mono ?_
   rintro e w1 ⟨rfl, hb⟩
   have c0 := (HBX.out.later hb).cell
   go_wp2_with fail
   go_ret2
   exact ⟨rfl, Bt HH0.out hb⟩
 ·have hbt : bA = false := by rw [hbz, decide_eq_false hz]
  subst hbt
  rw [if_neg hz, Nat.add_zero] at hsz
  clear hz hlen hok hn hbz hv En hs hx NA h0 hbx
  by_cases hbig : n ≤ 600
  ·rw [if_pos hbig]
   have e1 : ¬ (600 : Int) < (n : Int) := by omega
   go_enter Tryz.func106, Tryz.ntmps106
   go_wp2_with fail
   refine (HT.out _ HH0.out).mono ?_
   rintro e w1 ⟨rfl, hb⟩
   have c0 := (HBX.out.later hb).cell
   go_wp2_with fail
   go_ret2
   exact ⟨rfl, Bt HH0.out hb⟩
  ·rw [if_neg hbig]
   have e1 : (600 : Int) < (n : Int) := by omega
   go_enter Tryz.func106, Tryz.ntmps106
   go_wp2_with fail
   refine (HT.out _ HH0.out).mono ?_
   rintro e w1 ⟨rfl, hb⟩
   have c0 := (HBX.out.later hb).cell
   go_wp2_with fail
   go_ret2
   exact ⟨rfl, Bt HH0.out hb⟩
end Go.Proofs.verdigrisref01
namespace Go.Proofs.verdigrisref01
open Go Go.RowKit Go.SW Go.Num Go.Mem Go.Proofs Go.Dec
/-- A slice of words, as it is read. -/
def Words (w : World) (v : Value) : Prop := ∃ (a : Option Addr) (n cap : Nat) (U : Nat → Int), v = .slice a n cap ∧ n ≤ 9223372036854775807 ∧ ∀ k, k < n → ∃ b off, a = some ⟨b, off, none⟩ ∧ b < w.heap.size ∧ w.cell? ⟨b, off + k, none⟩ = some (.int .u16 (U k)) ∧ 0 ≤ U k ∧ U k ≤ 65535
theorem Words.later {w w' : World} {v : Value} (h : Words w v) (hb : Below w.heap.size w w') : Words w' v := by
 obtain ⟨a, n, cap, U, rfl, hn, h⟩ := h
 refine ⟨a, n, cap, U, rfl, hn, fun k hk => ?_⟩
 obtain ⟨b, off, rfl, h1, h2, h3⟩ := h k hk
 exact ⟨b, off, rfl, Nat.lt_of_lt_of_le h1 hb.size, (hb.cell (p := ⟨b, off + k, none⟩) h1).trans h2, h3⟩
/-- The number of the first words. -/
def thou (U : Nat → Int) : Nat → Int
 | 0 => 0
 | k + 1 => thou U k * 1000 + (U k).tmod 1000
set_option maxRecDepth 100000 in
set_option maxHeartbeats 1000000 in
theorem Small_ok (f : Bool) (v : Value) (z : Int) (w : World) (h : Words w v) : ∃ m : Int, (-999999 ≤ m ∧ m ≤ 999999) ∧ ∀ W, Below w.heap.size w W →
  Calls Tryz.prog 59 #[.agg #[.bool f, v, .int .u16 z]] W (fun e w' => e = .returned (.int .i64 m) ∧ Below W.heap.size W w') := by
 have W0 : ∀ z : Int, -1000000000 ≤ z ∧ z ≤ 1000000000 → IntKind.i64.wrap z = z := fun z h => by unfold IntKind.wrap; simp [IntKind.bits, IntKind.signed]; split <;> omega
 obtain ⟨a, n, cap, U, rfl, hn, hread⟩ := h
 have R0 : ∀ k, k < n → 0 ≤ (U k).tmod 1000 ∧ (U k).tmod 1000 ≤ 999 := fun k hk => by
  obtain ⟨_, _, _, _, _, h0, _⟩ := hread k hk
  rw [Int.tmod_eq_emod_of_nonneg h0]
  omega
 have T0 : ∀ k, k ≤ n → k ≤ 2 → 0 ≤ thou U k ∧ thou U k < 1000 ^ k := fun k hk h2 => by
  rcases (by omega : k = 0 ∨ k = 1 ∨ k = 2) with rfl | rfl | rfl
  ·simp [thou]
  ·have := R0 0 (by omega)
   simp [thou]
   omega
  ·have := R0 0 (by omega)
   have := R0 1 (by omega)
   simp [thou]
   omega
 have T1 : ∀ k, k ≤ n → k ≤ 2 → 0 ≤ thou U k ∧ thou U k ≤ 999999 := fun k hk h2 => by
  have := T0 k hk h2
  rcases (by omega : k = 0 ∨ k = 1 ∨ k = 2) with rfl | rfl | rfl <;> omega
 have TM := T1 (min n 2) (by omega) (by omega)
 refine ⟨if f then -thou U (min n 2) else thou U (min n 2), by split <;> omega, fun W hW => ?_⟩
 have H : Hid (∀ k, k < n → ∃ b off, a = some ⟨b, off, none⟩ ∧ b < W.heap.size ∧ W.cell? ⟨b, off + k, none⟩ = some (.int .u16 (U k)) ∧ 0 ≤ U k ∧ U k ≤ 65535) := Lib.hid fun k hk => by
  obtain ⟨b, off, rfl, h1, h2, h3⟩ := hread k hk
  exact ⟨b, off, rfl, Nat.lt_of_lt_of_le h1 hW.size, (hW.cell (p := ⟨b, off + k, none⟩) h1).trans h2, h3⟩
 have HW := Lib.hid W0
 have HR := Lib.hid R0
 have HT := Lib.hid T1
 have HS : Hid (∀ k, thou U (k + 1) = thou U k * 1000 + (U k).tmod 1000) := Lib.hid fun k => rfl
 have H0 : Hid (thou U 0 = 0) := Lib.hid rfl
 obtain ⟨mv, Emv⟩ : ∃ y, Hid ((if f = true then -thou U (min n 2) else thou U (min n 2)) = y) := ⟨_, Lib.hid rfl⟩
 rw [Emv.out]
 clear hread W0 R0 T0 T1 TM hW w
 generalize thou U = F at *
 go_enter Tryz.func59, Tryz.ntmps59
 go_wp2_with fail
 go_loopw [3, 4] (fun tv iv wr => ∃ k : Nat, iv = .int .i64 (k : Int) ∧ tv = .int .i64 (F k) ∧ k ≤ n ∧ k ≤ 2 ∧ Below W.heap.size W wr ∧ Box wr W.heap.size #[.bool f, .slice a n cap, .int .u16 z] 44) (fun _ iv _ => 2 - (intOf iv).toNat)
 case atStart => exact ⟨0, rfl, by rw [H0.out], by omega, by omega, belA, boxA⟩
 case round =>
  obtain ⟨k, rfl, rfl, hkn, hk2, hb, hB⟩ := hrel
  have cB := hB.cell
  have lB := hB.lt
  have ht := HT.out k hkn hk2
  by_cases hex : k < n ∧ k < 2
  ·obtain ⟨h1, h2⟩ := hex
   obtain ⟨b, off, rfl, lb, cx, u0, u1⟩ := H.out k h1
   have cx' := (hb.cell (p := ⟨b, off + k, none⟩) lb).trans cx
   have g1 : decide ((k : Int) < (n : Int)) = true := by simp; omega
   have g2 : decide ((k : Int) < 2) = true := by simp; omega
   have hr := HR.out k h1
   have HSk := Lib.hid (HS.out k)
   obtain ⟨r, Er⟩ : ∃ r, (U k).tmod 1000 = r := ⟨_, rfl⟩
   rw [Er] at hr HSk
   obtain ⟨t, Et⟩ : ∃ t, F k = t := ⟨_, rfl⟩
   rw [Et] at ht HSk ⊢
   have t2 : t ≤ 999999 := ht.2
   have w1 : IntKind.u16.wrap r = r := by unfold IntKind.wrap; simp [IntKind.bits, IntKind.signed]; omega
   have w2 := HW.out r (by omega)
   have w3 := HW.out (t * 1000) (by omega)
   have w4 := HW.out (t * 1000 + r) (by omega)
   clear cx lb
   go_wp2_with fail
   go_roundw
   case rel => exact ⟨k + 1, by go_num, by rw [HSk.out], by omega, by omega, hb, hB⟩
   case measure => simp [intOf]; omega
  ·have hkm : k = min n 2 := by omega
   have hw5 := HW.out (-F k) (by omega)
   have HM : Hid (mv = if f = true then -F k else F k) := Lib.hid (by rw [← Emv.out, hkm])
   obtain ⟨t, Et⟩ : ∃ t, F k = t := ⟨_, rfl⟩
   rw [Et] at hw5 HM ⊢
   clear ht Et Emv hkm
   rcases (by omega : k = n ∨ (k = 2 ∧ 2 < n)) with rfl | ⟨rfl, h3⟩
   ·cases f
    ·go_wp2_with fail
     go_ret
     exact ⟨by rw [HM.out]; rfl, hb⟩
    ·go_wp2_with fail
     go_ret
     exact ⟨by rw [HM.out]; rfl, hb⟩
   ·have g1 : decide ((2 : Int) < (n : Int)) = true := by simp; omega
    cases f
    ·go_wp2_with fail
     go_ret
     exact ⟨by rw [HM.out]; rfl, hb⟩
    ·go_wp2_with fail
     go_ret
     exact ⟨by rw [HM.out]; rfl, hb⟩
end Go.Proofs.verdigrisref01
namespace Go.Proofs.YtpoecfpbafpokaaGreatDoor
open Go Go.ChangeShapes Go.WideShapes Go.RowKit Go.Proofs Go.Proofs.verdigrisref01
theorem u16_wf {n : Int} (h : (Lit.int .u16 n).wf = true) : 0 ≤ n ∧ n ≤ 65535 := by
 simp [Lit.wf, IntKind.min, IntKind.max, IntKind.signed, IntKind.bits] at h
 omega
section
variable {H : Type} {enc : TypeId × Value → H} {P : Program} {w : World} {base : Nat} {spare : Nat → Bool} {held : Bool}
theorem trod_struct3 {t : TypeId} {f0 f1 f2 : Field} {fuel : Nat} {cs : List Value} {x : DataW H × List MemPlace} (ht : P.underlying t = some (.struct #[f0, f1, f2])) (h : DataW.trod enc P w base spare held fuel t cs = some x) :
  ∃ y0 y1 y2 n, cs.length = P.cellsOf t ∧ DataW.trod enc P w base spare held n f0.type ((cs.drop f0.offset).take (P.cellsOf f0.type)) = some y0 ∧
   DataW.trod enc P w base spare held n f1.type ((cs.drop f1.offset).take (P.cellsOf f1.type)) = some y1 ∧ DataW.trod enc P w base spare held n f2.type ((cs.drop f2.offset).take (P.cellsOf f2.type)) = some y2 := by
 obtain ⟨xs, n, _, rfl, hl, hlen, hf⟩ := DataW.trod_struct ht h
 match xs, hlen with
 | [y0, y1, y2], _ => exact ⟨y0, y1, y2, n, hl, by simpa using hf 0 f0 rfl, by simpa using hf 1 f1 rfl, by simpa using hf 2 f2 rfl⟩
theorem cells_at {a : Addr} {n : Nat} {cs : List Value} (h : w.cells? base a n = some cs) : cs.length = n ∧ ∀ i, i < n → w.cell? (a.add i) = cs[i]? := by
 unfold World.cells? at h
 split at h
 ·exact ⟨by simpa using mapM_some_length h, fun i hi => mapM_some_get h i i (by simp [hi])⟩
 ·cases h
theorem cell_lt {a : Addr} {v : Value} (h : w.cell? a = some v) : a.block < w.heap.size := by
 unfold World.cell? at h
 rcases Nat.lt_or_ge a.block w.heap.size with h1 | h1
 ·exact h1
 ·rw [Array.getElem?_eq_none h1] at h
  cases h
end
set_option maxRecDepth 100000 in
theorem trod_words {H : Type} {enc : TypeId × Value → H} {W : World} {base : Nat} {sp : Nat → Bool} {held : Bool} {fuel : Nat} {cs : List Value} {x : DataW H × List MemPlace} (h : DataW.trod enc Tryz.prog W base sp held fuel 41 cs = some x) :
  ∃ a n cap, cs = [.slice a n cap] ∧ Words W (.slice a n cap) := by
 have ue : Tryz.prog.underlying 42 = some (.int .u16) := Tryz.underlying42
 have ce : Tryz.prog.cellsOf 42 = 1 := by kernel_rfl
 rcases DataW.trod_slice Tryz.underlying41 h with ⟨rfl, -⟩ | ⟨a, len, cap, elems, rest, n, -, rfl, -, -, h1, h2, h3, h4, -⟩
 ·exact ⟨none, 0, 0, rfl, none, 0, 0, fun _ => 0, rfl, by omega, fun k hk => by omega⟩
 ·unfold maxLen at h2
  have hc : ∀ k, k < len → ∃ u : Int, W.cell? (a.add k) = some (.int .u16 u) ∧ 0 ≤ u ∧ u ≤ 65535 := fun k hk => by
   have e := h4 k hk
   rw [List.getElem?_eq_getElem (by omega), ce, Nat.mul_one, Option.bind_eq_some_iff] at e
   obtain ⟨cs', k1, k2⟩ := e
   obtain ⟨u, rfl, -, hw⟩ := DataW.trod_int ue k2
   obtain ⟨-, k3⟩ := cells_at k1
   have k4 := k3 0 (by omega)
   rw [show (a.add k).add 0 = a.add k by simp [Addr.add]] at k4
   exact ⟨u, k4, u16_wf hw⟩
  refine ⟨some a, len, cap, rfl, some a, len, cap, fun k => if h : k < len then (hc k h).choose else 0, rfl, by omega, fun k hk => ?_⟩
  obtain ⟨u0, z0, -⟩ := hc 0 (by omega)
  have hs : a.spot = none := World.cell?_spot (by simpa [Addr.add] using z0)
  have hl := cell_lt z0
  have hsp := (hc k hk).choose_spec
  obtain ⟨b, off, sp⟩ := a
  simp only at hs
  subst hs
  have hl' : b < W.heap.size := by rw [Addr.add_lit] at hl; exact hl
  have hx : W.cell? ⟨b, off + k, none⟩ = some (.int .u16 (hc k hk).choose) := by rw [← Addr.add_lit]; exact hsp.1
  simp only [hk, dif_pos]
  exact ⟨b, off, rfl, hl', hx, hsp.2⟩
set_option maxRecDepth 100000 in
theorem trod_d1 {H : Type} {enc : TypeId × Value → H} {W : World} {base : Nat} {sp : Nat → Bool} {held : Bool} {fuel : Nat} {cs : List Value} {x : DataW H × List MemPlace} (h : DataW.trod enc Tryz.prog W base sp held fuel 44 cs = some x) :
  ∃ f a n cap z, cs = [.bool f, .slice a n cap, .int .u16 z] ∧ Words W (.slice a n cap) := by
 have u0 : Tryz.prog.underlying 4 = some .bool := Tryz.underlying4
 have u2 : Tryz.prog.underlying 42 = some (.int .u16) := Tryz.underlying42
 have c0 : Tryz.prog.cellsOf 4 = 1 := by kernel_rfl
 have c1 : Tryz.prog.cellsOf 41 = 1 := by kernel_rfl
 have c2 : Tryz.prog.cellsOf 42 = 1 := by kernel_rfl
 have ct : Tryz.prog.cellsOf 44 = 3 := by kernel_rfl
 obtain ⟨y0, y1, y2, m, hl, h0, h1, h2⟩ := trod_struct3 Tryz.underlying44 h
 rw [ct] at hl
 simp only [c0, c1, c2] at h0 h1 h2
 obtain ⟨x0, x1, x2, rfl⟩ : ∃ x0 x1 x2, cs = [x0, x1, x2] := by
  match cs, hl with
  | [x0, x1, x2], _ => exact ⟨x0, x1, x2, rfl⟩
 obtain ⟨f, e0, -⟩ := DataW.trod_bool u0 h0
 obtain ⟨a, n, cap, e1, hw⟩ := trod_words h1
 obtain ⟨z, e2, -⟩ := DataW.trod_int u2 h2
 replace e0 : [x0] = [Value.bool f] := e0
 replace e1 : [x1] = [Value.slice a n cap] := e1
 replace e2 : [x2] = [Value.int .u16 z] := e2
 simp only [List.cons.injEq, and_true] at e0 e1 e2
 subst e0 e1 e2
 exact ⟨f, a, n, cap, z, rfl, hw⟩
set_option maxRecDepth 100000 in
theorem trod_d2 {H : Type} {enc : TypeId × Value → H} {W : World} {base : Nat} {sp : Nat → Bool} {held : Bool} {fuel : Nat} {cs : List Value} {x : DataW H × List MemPlace} (h : DataW.trod enc Tryz.prog W base sp held fuel 46 cs = some x) :
  ∃ f1 a1 n1 c1 z1 f2 a2 n2 c2 z2, cs = [.bool f1, .slice a1 n1 c1, .int .u16 z1, .bool f2, .slice a2 n2 c2, .int .u16 z2] ∧ Words W (.slice a1 n1 c1) ∧ Words W (.slice a2 n2 c2) := by
 have c0 : Tryz.prog.cellsOf 44 = 3 := by kernel_rfl
 have ct : Tryz.prog.cellsOf 46 = 6 := by kernel_rfl
 obtain ⟨y0, y1, m, -, hl, h0, h1⟩ := trod_struct2 Tryz.underlying46 h
 rw [ct] at hl
 simp only [c0] at h0 h1
 obtain ⟨x0, x1, x2, x3, x4, x5, rfl⟩ : ∃ x0 x1 x2 x3 x4 x5, cs = [x0, x1, x2, x3, x4, x5] := by
  match cs, hl with
  | [x0, x1, x2, x3, x4, x5], _ => exact ⟨x0, x1, x2, x3, x4, x5, rfl⟩
 obtain ⟨f1, a1, n1, c1, z1, e1, w1⟩ := trod_d1 h0
 obtain ⟨f2, a2, n2, c2, z2, e2, w2⟩ := trod_d1 h1
 replace e1 : [x0, x1, x2] = [.bool f1, .slice a1 n1 c1, .int .u16 z1] := e1
 replace e2 : [x3, x4, x5] = [.bool f2, .slice a2 n2 c2, .int .u16 z2] := e2
 simp only [List.cons.injEq, and_true] at e1 e2
 obtain ⟨rfl, rfl, rfl⟩ := e1
 obtain ⟨rfl, rfl, rfl⟩ := e2
 exact ⟨f1, a1, n1, c1, z1, f2, a2, n2, c2, z2, rfl, w1, w2⟩
set_option maxRecDepth 100000 in
theorem opn_d2 {H : Type} {enc : TypeId × Value → H} {W : World} {b0 base : Nat} {sp : Nat → Bool} {held : Bool} {v : Value} {d : DataW H} {p : List MemPlace}
  (hval : Value.okWide Tryz.prog W .any b0 46 v) (h : DataW.Trod enc Tryz.prog W base sp held 46 v d p) :
  ∃ f1 a1 n1 c1 z1 f2 a2 n2 c2 z2, v = .agg #[.bool f1, .slice a1 n1 c1, .int .u16 z1, .bool f2, .slice a2 n2 c2, .int .u16 z2] ∧ Words W (.slice a1 n1 c1) ∧ Words W (.slice a2 n2 c2) := by
 have ut := Tryz.underlying46
 obtain ⟨cs, rfl, hsz, -⟩ : ∃ cs, v = .agg cs ∧ cs.size = Tryz.prog.cellsOf 46 ∧ Row.okWide Tryz.prog W .any b0 46 cs := by
  simpa [Value.okWide, ut] using hval
 obtain ⟨l⟩ := cs
 obtain ⟨fuel, hf⟩ := h
 obtain ⟨f1, a1, n1, c1, z1, f2, a2, n2, c2, z2, e, w1, w2⟩ := trod_d2 hf
 replace e : l = [.bool f1, .slice a1 n1 c1, .int .u16 z1, .bool f2, .slice a2 n2 c2, .int .u16 z2] := e
 subst e
 exact ⟨f1, a1, n1, c1, z1, f2, a2, n2, c2, z2, rfl, w1, w2⟩
end Go.Proofs.YtpoecfpbafpokaaGreatDoor
namespace Go.Fra
open Go Go.Num Go.Dec Lib
def bin (f : Rat → Rat → Fr × Int) (a b : Fr) : Fr × Int := match rd a, rd b with
 | some p, some q => f p q
 | _, _ => (Fr.no, 20)
def mulF (a b : Fr) : Fr × Int := bin (fun p q => wr (p * q)) a b
theorem bin_some {f : Rat → Rat → Fr × Int} {a b : Fr} {p q : Rat} (h : rd a = some p) (k : rd b = some q) : bin f a b = f p q := by unfold bin; rw [h, k]
theorem bin_no1 {f : Rat → Rat → Fr × Int} {a b : Fr} (h : rd a = none) : bin f a b = (Fr.no, 20) := by unfold bin; rw [h]
theorem bin_no2 {f : Rat → Rat → Fr × Int} {a b : Fr} (k : rd b = none) : bin f a b = (Fr.no, 20) := by
 unfold bin
 cases rd a with
 | none => rfl
 | some p => simp [k]
end Go.Fra
namespace Go.Proofs.power
open Go Go.Num Go.Fra
theorem rat_ext {x y : Rat} (h1 : x.num = y.num) (h2 : x.den = y.den) : x = y := Rat.ext h1 h2
theorem rpow_mul {a : Rat} (h : 0 ≤ a) (m n : Nat) : (a ^ m) ^ n = a ^ (m * n) := by
 have hm : 0 ≤ a ^ m := by
  rw [← Rat.num_nonneg, (frac.pow_num a h m).1]
  exact Int.natCast_nonneg _
 obtain ⟨x1, x2⟩ := frac.pow_num (a ^ m) hm n
 obtain ⟨y1, y2⟩ := frac.pow_num a h m
 obtain ⟨z1, z2⟩ := frac.pow_num a h (m * n)
 refine rat_ext ?_ ?_
 ·rw [x1, z1, y1, Int.natAbs_natCast, ← Nat.pow_mul]
 ·rw [x2, z2, y2, ← Nat.pow_mul]
theorem rmul_pow (a c : Rat) : ∀ n : Nat, (a * c) ^ n = a ^ n * c ^ n
 | 0 => by simp
 | n + 1 => by
  rw [Rat.pow_succ, Rat.pow_succ, Rat.pow_succ, rmul_pow a c n]
  grind
theorem rpow_nonneg {a : Rat} (h : 0 ≤ a) (n : Nat) : 0 ≤ a ^ n := by
 rw [← Rat.num_nonneg, (frac.pow_num a h n).1]
 exact Int.natCast_nonneg _
/-- A fraction of numbers that are not great. -/
def Szq (k : Nat) (r : Rat) : Prop := 0 ≤ r ∧ r.num.natAbs ≤ 1000 ^ k ∧ r.den ≤ 1000 ^ k
theorem Szq.ok {k : Nat} {r : Rat} (h : Szq k r) (hk : k ≤ 100) : okq r = true := by
 obtain ⟨-, h1, h2⟩ := h
 have h3 : (1000 : Nat) ^ k ≤ 1000 ^ 100 := Nat.pow_le_pow_right (by decide) hk
 have h4 : (1000 : Nat) ^ 100 < tenTo 600 := by decide +kernel
 unfold okq okn
 rw [decide_eq_true (Nat.lt_of_le_of_lt (Nat.le_trans h1 h3) h4), decide_eq_true (Nat.lt_of_le_of_lt (Nat.le_trans h2 h3) h4)]
 rfl
theorem Szq.pow {k : Nat} {r : Rat} (h : Szq k r) (n : Nat) : Szq (k * n) (r ^ n) := by
 obtain ⟨h0, h1, h2⟩ := h
 obtain ⟨e1, e2⟩ := frac.pow_num r h0 n
 refine ⟨rpow_nonneg h0 n, ?_, ?_⟩
 ·rw [e1, Int.natAbs_natCast, Nat.pow_mul]
  exact Nat.pow_le_pow_left h1 n
 ·rw [e2, Nat.pow_mul]
  exact Nat.pow_le_pow_left h2 n
theorem Szq.mono {k m : Nat} {r : Rat} (h : Szq k r) (hk : k ≤ m) : Szq m r :=
 ⟨h.1, Nat.le_trans h.2.1 (Nat.pow_le_pow_right (by decide) hk), Nat.le_trans h.2.2 (Nat.pow_le_pow_right (by decide) hk)⟩
theorem Szq.mul {k m : Nat} {r s : Rat} (h : Szq k r) (i : Szq m s) : Szq (k + m) (r * s) := by
 obtain ⟨h0, h1, h2⟩ := h
 obtain ⟨i0, i1, i2⟩ := i
 obtain ⟨e1, e2⟩ := mul_parts2 r s
 refine ⟨Rat.mul_nonneg h0 i0, ?_, ?_⟩
 ·rw [e1, Mem.sgd_natAbs, Nat.pow_add]
  exact Nat.mul_le_mul (Nat.le_trans (Nat.div_le_self _ _) h1) (Nat.le_trans (Nat.div_le_self _ _) i1)
 ·rw [e2, Nat.pow_add]
  exact Nat.mul_le_mul (Nat.le_trans (Nat.div_le_self _ _) h2) (Nat.le_trans (Nat.div_le_self _ _) i2)
theorem wr_of {k : Nat} {r : Rat} (h : Szq k r) (hk : k ≤ 100) : wr r = (Fr.of r, 0) := by
 unfold wr
 rw [if_pos (h.ok hk)]
theorem iroot_pow {k x : Nat} (hk : 0 < k) : iroot k (x ^ k) = x := iroot_eq hk (Nat.le_refl _) (Nat.pow_lt_pow_left (by omega) (by omega))
/-- The power p / q of a ^ q is a ^ p. -/
theorem exQ_pow {a : Rat} (h : 0 ≤ a) {p q : Nat} (hq : 0 < q) : exQ (a ^ q) p q = wr (a ^ p) := by
 obtain ⟨e1, e2⟩ := frac.pow_num a h q
 have hg : 0 < p.gcd q := Nat.gcd_pos_of_pos_right _ hq
 obtain ⟨q', hq'⟩ := Nat.gcd_dvd_right p q
 obtain ⟨p', hp'⟩ := Nat.gcd_dvd_left p q
 have d1 : q / p.gcd q = q' := by
  conv => lhs; arg 1; rw [hq']
  exact Nat.mul_div_cancel_left _ hg
 have d2 : p / p.gcd q = p' := by
  conv => lhs; arg 1; rw [hp']
  exact Nat.mul_div_cancel_left _ hg
 have q0 : 0 < q' := by
  rcases Nat.eq_zero_or_pos q' with e | e
  ·rw [e] at hq'
   omega
  ·exact e
 unfold exQ
 rw [d1, d2, e1, e2, Int.natAbs_natCast]
 generalize p.gcd q = g at *
 subst hq'
 rw [hp', Nat.pow_mul, Nat.pow_mul, iroot_pow q0, iroot_pow q0, if_pos ⟨rfl, rfl⟩]
 have hcop : (a.num.natAbs ^ g).Coprime (a.den ^ g) := Nat.Coprime.pow _ _ a.reduced
 obtain ⟨m1, m2⟩ := mk_low (Nat.pos_iff_ne_zero.1 (Nat.pow_pos a.den_pos)) hcop
 obtain ⟨g1, g2⟩ := frac.pow_num a h g
 rw [rat_ext (x := mkRat ((a.num.natAbs ^ g : Nat) : Int) (a.den ^ g)) (y := a ^ g) (by rw [m1, g1]) (by rw [m2, g2]), rpow_mul h]
/-- A power that is exact: its q-th power is the p-th power. -/
theorem exQ_back {a : Rat} (h : Szq 1 a) {p q : Nat} (p1 : 1 ≤ p) (p6 : p ≤ 6) (hq : 0 < q) : (∃ r : Rat, Szq 6 r ∧ exQ a p q = wr r ∧ r ^ q = a ^ p) ∨ exQ a p q = (Fr.no, 4) := by
 obtain ⟨h0, h1, h2⟩ := h
 have hg : 0 < p.gcd q := Nat.gcd_pos_of_pos_right _ hq
 have hq1 : 0 < q / p.gcd q := Nat.div_pos (Nat.gcd_le_right _ hq) hg
 have hp' : p / p.gcd q ≤ 6 := Nat.le_trans (Nat.div_le_self _ _) p6
 have eq' : p.gcd q * (q / p.gcd q) = q := Nat.mul_div_cancel' (Nat.gcd_dvd_right _ _)
 have ep' : p.gcd q * (p / p.gcd q) = p := Nat.mul_div_cancel' (Nat.gcd_dvd_left _ _)
 unfold exQ
 split
 ·rename_i hx
  obtain ⟨x1, x2⟩ := hx
  left
  have hcop := coprime_root hq1 a.reduced x1 x2
  have hy : iroot (q / p.gcd q) a.den ≠ 0 := by
   intro e
   rw [e, Nat.zero_pow hq1] at x2
   exact a.den_nz x2.symm
  obtain ⟨m1, m2⟩ := mk_low hy hcop
  have hs : ∀ x y : Nat, x ^ (q / p.gcd q) = y → x ≤ y := fun x y e => by
   rcases Nat.eq_zero_or_pos x with hx | hx
   ·omega
   ·have := Nat.le_self_pow (by omega : q / p.gcd q ≠ 0) x
    omega
  generalize hm : mkRat ((iroot (q / p.gcd q) a.num.natAbs : Nat) : Int) (iroot (q / p.gcd q) a.den) = m at *
  have m0 : 0 ≤ m := by
   rw [← Rat.num_nonneg, m1]
   exact Int.natCast_nonneg _
  have sm : Szq 1 m := ⟨m0, by rw [m1, Int.natAbs_natCast]; exact Nat.le_trans (hs _ _ x1) h1, by rw [m2]; exact Nat.le_trans (hs _ _ x2) h2⟩
  have e : m ^ (q / p.gcd q) = a := by
   obtain ⟨y1, y2⟩ := frac.pow_num m m0 (q / p.gcd q)
   refine rat_ext ?_ ?_
   ·rw [y1, m1, Int.natAbs_natCast, x1, Int.natAbs_of_nonneg]
    rw [Rat.num_nonneg]
    exact h0
   ·rw [y2, m2, x2]
  refine ⟨m ^ (p / p.gcd q), (sm.pow _).mono (by omega), rfl, ?_⟩
  rw [rpow_mul m0, ← e, rpow_mul m0]
  congr 1
  generalize p / p.gcd q = p' at *
  generalize q / p.gcd q = q' at *
  generalize p.gcd q = g at *
  subst eq' ep'
  ac_rfl
 ·exact Or.inr rfl
end Go.Proofs.power
namespace Go.Proofs.frac
open Go Go.RowKit Go.SW Go.Num Go.Mem Go.Proofs Go.Dec Go.Fra
/-- The absolute value. -/
def absQ (q : Rat) : Rat := ⟨(q.num.natAbs : Int), q.den, q.den_nz, by rw [Int.natAbs_natCast]; exact q.reduced⟩
def absF (a : Fr) : Fr × Int := match rd a with
 | none => (Fr.no, 20)
 | some q => wr (absQ q)
theorem absQ_nonneg (q : Rat) : 0 ≤ absQ q := by
 rw [← Rat.num_nonneg]
 exact Int.natCast_nonneg _
theorem absQ_ok {q : Rat} (h : okq q = true) : okq (absQ q) = true := by
 unfold okq at *
 show (okn (absQ q).num.natAbs && okn q.den) = true
 rw [show (absQ q).num.natAbs = q.num.natAbs from Int.natAbs_natCast _]
 exact h
set_option maxRecDepth 10000 in
set_option maxHeartbeats 1000000 in
theorem abs_some (s t : ByteArray) (q : Rat) (h : rd ⟨s, t⟩ = some q) (w : World) (ht : Bld.Pow w) :
  Calls Tryz.prog 34 #[.agg #[.string s, .string t]] w (fun e w' => e = .returned (Fr.res (wr (absQ q))) ∧ Below w.heap.size w w') := by
 have HR := Lib.hid (read_of h)
 have hk := absQ_ok (of_rd h).2
 have KQ := Lib.hid ((okq_sz hk).mono (show 67 ≤ 1000000 by omega))
 have HT := Lib.hid ht
 have HD : Hid (q.den = (absQ q).den) := Lib.hid rfl
 have HN : Hid (sgd q.num.natAbs false = (absQ q).num) := Lib.hid rfl
 obtain ⟨r, Er⟩ : ∃ r, absQ q = r := ⟨_, rfl⟩
 rw [Er] at KQ HD HN ⊢
 have E0 : wr r = (Fr.of r, 0) := by
  unfold wr
  rw [if_pos (Er ▸ hk)]
 obtain ⟨⟨⟨s1, t1⟩, e⟩, Ex⟩ : ∃ x, wr r = x := ⟨_, rfl⟩
 have HX := Lib.hid Ex
 rw [Ex, res_mk]
 clear h hk ht Er E0 Ex
 go_enter Tryz.func34, Tryz.ntmps34
 go_wp2_with fail
 refine (HR.out _).mono ?_
 rintro e v1 ⟨v, rfl, hc1, hv⟩
 obtain ⟨paHq, lHq, caHq, pbHq, mHq, cbHq, rfl, Hq, Hqd⟩ := hv; replace Hq := Lib.hid Hq; replace Hqd := Lib.hid Hqd
 have BR := Box.later (Box.at1 _ _ _ _) hc1; have cBR := BR.cell; have fBR := BR.free; have lBR := BR.lt
 go_wp2_with fail
 refine wp_region_walk [(.pure, 0), (.pure, 1), (.read, 2), (.pure, 4), (.read, 5), (.ext, 3), (.pure, 6), (.ext, 7), (.pure, 8), (.pure, 9), (.fin, 10), (.fin, 11)] (by kernel_rfl) (by kernel_rfl) (allocRuns_of (by kernel_rfl)) (fun _ _ _ _ hd h => And.intro (hd.trans (And.left h)) (And.right h)) ?_
 repeat (first | (refine walk_pure0 rfl rfl (fun J hJ => ?_); go_simp; refine hJ _ ?_; clear hJ J) | (refine walk_load rfl rfl rfl rfl (fun J hJ => ?_); go_simp; refine hJ _ ?_; clear hJ J; try go_simp))
 refine walk_ext rfl rfl (fun w2 hb2 J hJ => ?_); go_simp
 replace Hqd := Lib.hid (Mag.carry Hqd.out magA hb2)
 replace BR : Box _ (w.heap.size + 1) _ _ := Box.later boxA hb2; (try simp only [List.setIfInBounds_toArray, List.set_cons_zero, List.set_cons_succ] at BR); replace cBR := BR.cell; replace fBR := BR.free; replace lBR := BR.lt
 refine ((signed_ok _ q.num.natAbs false _ magA).mono (by rw [HN.out]; exact fun _ _ h => h)).mono ?_
 rintro e v2 ⟨v, rfl, hc2, hv⟩
 obtain ⟨paHs, lHs, caHs, rfl, Hs⟩ := hv; replace Hs := Lib.hid Hs
 replace Hqd := Lib.hid (Mag.later Hqd.out hc2)
 replace BR := Box.later (BR) hc2; replace cBR := BR.cell; replace fBR := BR.free; replace lBR := BR.lt
 refine hJ _ _ hc2 ?_
 clear hJ J
 repeat (first | (refine walk_pure0 rfl rfl (fun J hJ => ?_); go_simp; refine hJ _ ?_; clear hJ J) | (refine walk_load rfl rfl rfl rfl (fun J hJ => ?_); go_simp; refine hJ _ ?_; clear hJ J; try go_simp))
 refine walk_ext rfl rfl (fun w3 hb3 J hJ => ?_); go_simp
 replace BR := Box.later (BR) hb3; replace cBR := BR.cell; replace fBR := BR.free; replace lBR := BR.lt
 refine ((write_ok _ r _ (RatV.mk r.num.natAbs q.den magA magA rfl HD.out rfl) KQ.out (HT.out.later belA)).mono (by rw [HX.out, res_mk]; exact fun _ _ h => h)).mono ?_
 rintro e v3 ⟨rfl, hc3⟩
 replace BR := Box.later (BR) hc3; replace cBR := BR.cell; replace fBR := BR.free; replace lBR := BR.lt
 refine hJ _ _ hc3 ?_
 clear hJ J
 repeat (first | (refine walk_pure0 rfl rfl (fun J hJ => ?_); go_simp; refine hJ _ ?_; clear hJ J) | (refine walk_load rfl rfl rfl rfl (fun J hJ => ?_); go_simp; refine hJ _ ?_; clear hJ J; try go_simp))
 refine walk_fin [_, _] rfl (fun w9 hb9 => ?_)
 replace BR := Box.later (BR) hb9; replace cBR := BR.cell; replace fBR := BR.free; replace lBR := BR.lt
 go_wp2_with fail
 refine ret_ct rfl rfl boxA Tryz.underlying40 rfl (by kernel_rfl) ?_
 exact ⟨rfl, belA⟩
set_option maxRecDepth 10000 in
theorem Abs_ok (a : Fr) (w : World) (ht : Bld.Pow w) :
  Calls Tryz.prog 34 #[a.v] w (fun e w' => e = .returned (Fr.res (absF a)) ∧ Below w.heap.size w w') := by
 obtain ⟨s, t⟩ := a
 show Calls _ _ #[.agg #[.string s, .string t]] _ _
 unfold absF
 cases h : rd ⟨s, t⟩ with
 | some q => exact abs_some s t q h w ht
 | none =>
  have HR := Lib.hid (read_not h)
  simp only [Fr.no, res_mk]
  clear h
  go_enter Tryz.func34, Tryz.ntmps34
  go_wp2_with fail
  refine (HR.out _).mono ?_
  rintro e v1 ⟨rfl, hc1⟩
  have BR := Box.later (Box.at1 _ _ _ _) hc1; have cBR := BR.cell; have fBR := BR.free; have lBR := BR.lt
  go_wp2_with fail
  refine ret_ct rfl rfl boxA Tryz.underlying40 rfl (by kernel_rfl) ?_
  exact ⟨rfl, belA⟩
end Go.Proofs.frac
namespace Go.Proofs.frac
open Go Go.RowKit Go.SW Go.Num Go.Mem Go.Proofs Go.Dec Go.Fra
set_option maxRecDepth 10000 in
set_option maxHeartbeats 4000000 in
theorem mul_ok (x y : Value) (p q : Rat) (w : World) (hx : RatV w x p) (hy : RatV w y q) (kp : szq 1000000 p) (kq : szq 1000000 q) :
  Calls Tryz.prog 83 #[x, y] w (fun e w' => ∃ v, e = .returned v ∧ Below w.heap.size w w' ∧ RatV w' v (p * q)) := by
 obtain ⟨paH, lH, caH, pbH, mH, cbH, rfl, H, Hd⟩ := hx; replace H := Lib.hid H; replace Hd := Lib.hid Hd
 obtain ⟨paG, lG, caG, pbG, mG, cbG, rfl, G, Gd⟩ := hy; replace G := Lib.hid G; replace Gd := Lib.hid Gd
 have HP := Lib.hid (mul_parts3 p q)
 have hp := p.den_pos
 have hq := q.den_pos
 have hg : 0 < p.num.natAbs.gcd q.den := Nat.gcd_pos_of_pos_right _ hq
 have hh : 0 < q.num.natAbs.gcd p.den := Nat.gcd_pos_of_pos_right _ hp
 obtain ⟨kp1, kp2⟩ := kp
 obtain ⟨kq1, kq2⟩ := kq
 obtain ⟨g, Eg⟩ : ∃ y : Nat, Hid (p.num.natAbs.gcd q.den = y) := ⟨_, Lib.hid rfl⟩
 rw [Eg.out] at hg HP
 obtain ⟨h, Eh⟩ : ∃ y : Nat, Hid (q.num.natAbs.gcd p.den = y) := ⟨_, Lib.hid rfl⟩
 rw [Eh.out] at hh HP
 have k1 := @sz_div p.num.natAbs g
 have k2 := @sz_div p.den h
 have k3 := @sz_div q.num.natAbs h
 have k4 := @sz_div q.den g
 obtain ⟨a, Ea⟩ : ∃ y : Nat, Hid (p.num.natAbs / g = y) := ⟨_, Lib.hid rfl⟩
 rw [Ea.out] at HP k1
 obtain ⟨b, Eb⟩ : ∃ y : Nat, Hid (p.den / h = y) := ⟨_, Lib.hid rfl⟩
 rw [Eb.out] at HP k2
 obtain ⟨c, Ec⟩ : ∃ y : Nat, Hid (q.num.natAbs / h = y) := ⟨_, Lib.hid rfl⟩
 rw [Ec.out] at HP k3
 obtain ⟨d, Ed⟩ : ∃ y : Nat, Hid (q.den / g = y) := ⟨_, Lib.hid rfl⟩
 rw [Ed.out] at HP k4
 obtain ⟨s, Es⟩ : ∃ y : Nat, Hid (a * c = y) := ⟨_, Lib.hid rfl⟩
 rw [Es.out] at HP
 obtain ⟨t, Et⟩ : ∃ y : Nat, Hid (b * d = y) := ⟨_, Lib.hid rfl⟩
 rw [Et.out] at HP
 have HGp := Lib.hid hg
 have HHp := Lib.hid hh
 have Kpn : Hid (sz 1000000000 p.num.natAbs ≤ 549755813888) := by unfold Hid; omega
 have Kqn : Hid (sz 1000000000 q.num.natAbs ≤ 549755813888) := by unfold Hid; omega
 have Kpd : Hid (sz 1000000000 p.den ≤ 549755813888) := by unfold Hid; omega
 have Kqd : Hid (sz 1000000000 q.den ≤ 549755813888) := by unfold Hid; omega
 have Ka : Hid (sz 1000000000 a ≤ 1099511627776) := by unfold Hid; omega
 have Kb : Hid (sz 1000000000 b ≤ 1099511627776) := by unfold Hid; omega
 have Kc : Hid (sz 1000000000 c ≤ 1099511627776) := by unfold Hid; omega
 have Kd : Hid (sz 1000000000 d ≤ 1099511627776) := by unfold Hid; omega
 clear k1 k2 k3 k4 kp1 kp2 kq1 kq2 hg hh hp hq
 go_enter Tryz.func83, Tryz.ntmps83
 go_wp2_with fail
 refine ((gcd_ok _ _ p.num.natAbs q.den _ magA magA Kpn.out Kqd.out).mono (by rw [Eg.out]; exact fun _ _ h => h)).mono ?_
 rintro e v1 ⟨v, rfl, hc1, hv⟩
 obtain ⟨paMg, lMg, caMg, rfl⟩ := hv.slice; have Mg := Lib.hid hv; clear hv
 replace H := Lib.hid (Mag.carry H.out magA hc1)
 replace Hd := Lib.hid (Mag.carry Hd.out magA hc1)
 replace G := Lib.hid (Mag.carry G.out magA hc1)
 replace Gd := Lib.hid (Mag.carry Gd.out magA hc1)
 have BR := Box.later (Box.at2 _ _ _ _ _) hc1; have cBR := BR.cell; have fBR := BR.free
 have B1 := Box.later (Box.alloc (Box.at1 _ _ _ _) _) hc1; have cB1 := B1.cell; have fB1 := B1.free
 have B0 := Box.later (Box.alloc (Box.alloc (Box.new _ _ _) _) _) hc1; have cB0 := B0.cell; have fB0 := B0.free
 go_wp2_with fail
 refine ((gcd_ok _ _ q.num.natAbs p.den _ magA magA Kqn.out Kpd.out).mono (by rw [Eh.out]; exact fun _ _ h => h)).mono ?_
 rintro e v2 ⟨v, rfl, hc2, hv⟩
 obtain ⟨paMh, lMh, caMh, rfl⟩ := hv.slice; have Mh := Lib.hid hv; clear hv
 replace H := Lib.hid (Mag.later H.out hc2)
 replace Hd := Lib.hid (Mag.later Hd.out hc2)
 replace G := Lib.hid (Mag.later G.out hc2)
 replace Gd := Lib.hid (Mag.later Gd.out hc2)
 replace Mg := Lib.hid (Mag.later Mg.out hc2)
 replace BR := Box.later (BR) hc2; replace cBR := BR.cell; replace fBR := BR.free
 replace B1 := Box.later (B1) hc2; replace cB1 := B1.cell; replace fB1 := B1.free
 replace B0 := Box.later (B0) hc2; replace cB0 := B0.cell; replace fB0 := B0.free
 go_wp2_with fail
 refine ((divide_ok _ _ p.num.natAbs g _ magA magA HGp.out Kpn.out).mono (by rw [Ea.out]; exact fun _ _ h => h)).mono ?_
 rintro e v3 ⟨v, vr, rfl, hc3, hv, hvr⟩
 obtain ⟨paMa, lMa, caMa, rfl⟩ := hv.slice; have Ma := Lib.hid hv; clear hv; obtain ⟨paMar, lMar, caMar, rfl⟩ := hvr.slice; have Mar := Lib.hid hvr; clear hvr
 replace Hd := Lib.hid (Mag.later Hd.out hc3)
 replace G := Lib.hid (Mag.later G.out hc3)
 replace Gd := Lib.hid (Mag.later Gd.out hc3)
 replace Mg := Lib.hid (Mag.later Mg.out hc3)
 replace Mh := Lib.hid (Mag.later Mh.out hc3)
 replace BR := Box.later (BR) hc3; replace cBR := BR.cell; replace fBR := BR.free
 replace B1 := Box.later (B1) hc3; replace cB1 := B1.cell; replace fB1 := B1.free
 replace B0 := Box.later (B0) hc3; replace cB0 := B0.cell; replace fB0 := B0.free
 go_wp2_with fail
 clear Mar H
 refine ((divide_ok _ _ p.den h _ magA magA HHp.out Kpd.out).mono (by rw [Eb.out]; exact fun _ _ h => h)).mono ?_
 rintro e v4 ⟨v, vr, rfl, hc4, hv, hvr⟩
 obtain ⟨paMb, lMb, caMb, rfl⟩ := hv.slice; have Mb := Lib.hid hv; clear hv; obtain ⟨paMbr, lMbr, caMbr, rfl⟩ := hvr.slice; have Mbr := Lib.hid hvr; clear hvr
 replace G := Lib.hid (Mag.later G.out hc4)
 replace Gd := Lib.hid (Mag.later Gd.out hc4)
 replace Mg := Lib.hid (Mag.later Mg.out hc4)
 replace Mh := Lib.hid (Mag.later Mh.out hc4)
 replace Ma := Lib.hid (Mag.later Ma.out hc4)
 replace BR := Box.later (BR) hc4; replace cBR := BR.cell; replace fBR := BR.free
 replace B1 := Box.later (B1) hc4; replace cB1 := B1.cell; replace fB1 := B1.free
 replace B0 := Box.later (B0) hc4; replace cB0 := B0.cell; replace fB0 := B0.free
 go_wp2_with fail
 clear Mbr Hd
 refine ((divide_ok _ _ q.num.natAbs h _ magA magA HHp.out Kqn.out).mono (by rw [Ec.out]; exact fun _ _ h => h)).mono ?_
 rintro e v5 ⟨v, vr, rfl, hc5, hv, hvr⟩
 obtain ⟨paMc, lMc, caMc, rfl⟩ := hv.slice; have Mc := Lib.hid hv; clear hv; obtain ⟨paMcr, lMcr, caMcr, rfl⟩ := hvr.slice; have Mcr := Lib.hid hvr; clear hvr
 replace Gd := Lib.hid (Mag.later Gd.out hc5)
 replace Mg := Lib.hid (Mag.later Mg.out hc5)
 replace Ma := Lib.hid (Mag.later Ma.out hc5)
 replace Mb := Lib.hid (Mag.later Mb.out hc5)
 replace BR := Box.later (BR) hc5; replace cBR := BR.cell; replace fBR := BR.free
 replace B1 := Box.later (B1) hc5; replace cB1 := B1.cell; replace fB1 := B1.free
 replace B0 := Box.later (B0) hc5; replace cB0 := B0.cell; replace fB0 := B0.free
 go_wp2_with fail
 clear Mcr G
 refine ((divide_ok _ _ q.den g _ magA magA HGp.out Kqd.out).mono (by rw [Ed.out]; exact fun _ _ h => h)).mono ?_
 rintro e v6 ⟨v, vr, rfl, hc6, hv, hvr⟩
 obtain ⟨paMd, lMd, caMd, rfl⟩ := hv.slice; have Md := Lib.hid hv; clear hv; obtain ⟨paMdr, lMdr, caMdr, rfl⟩ := hvr.slice; have Mdr := Lib.hid hvr; clear hvr
 replace Ma := Lib.hid (Mag.later Ma.out hc6)
 replace Mb := Lib.hid (Mag.later Mb.out hc6)
 replace Mc := Lib.hid (Mag.later Mc.out hc6)
 replace BR := Box.later (BR) hc6; replace cBR := BR.cell; replace fBR := BR.free
 replace B1 := Box.later (B1) hc6; replace cB1 := B1.cell; replace fB1 := B1.free
 replace B0 := Box.later (B0) hc6; replace cB0 := B0.cell; replace fB0 := B0.free
 go_wp2_with fail
 clear Mdr Gd
 refine wp_region_walk [(.pure, 0), (.pure, 1), (.pure, 3), (.pure, 4), (.read, 5), (.pure, 6), (.pure, 7), (.read, 8), (.pure, 9), (.pure, 11), (.pure, 12), (.ext, 2), (.ext, 10), (.ext, 13), (.pure, 14), (.fin, 15)] (by kernel_rfl) (by kernel_rfl) (allocRuns_of (by kernel_rfl)) (fun _ _ _ _ hd h => And.intro (hd.trans (And.left h)) (And.right h)) ?_
 repeat (first | (refine walk_pure0 rfl rfl (fun J hJ => ?_); go_simp; refine hJ _ ?_; clear hJ J) | (refine walk_load rfl rfl rfl rfl (fun J hJ => ?_); go_simp; refine hJ _ ?_; clear hJ J; try go_simp))
 refine walk_ext rfl rfl (fun w7 hb7 J hJ => ?_); go_simp
 replace Ma := Lib.hid (Mag.carry Ma.out magA hb7)
 replace Mb := Lib.hid (Mag.carry Mb.out magA hb7)
 replace Mc := Lib.hid (Mag.carry Mc.out magA hb7)
 replace Md := Lib.hid (Mag.carry Md.out magA hb7)
 replace BR := Box.later (Box.drew BR) hb7; replace cBR := BR.cell; replace fBR := BR.free
 refine ((times_ok _ _ a c _ magA magA Ka.out Kc.out).mono (by rw [Es.out]; exact fun _ _ h => h)).mono ?_
 rintro e v7 ⟨v, rfl, hc7, hv⟩
 obtain ⟨paMs, lMs, caMs, rfl⟩ := hv.slice; have Ms := Lib.hid hv; clear hv
 replace Ma := Lib.hid (Mag.later Ma.out hc7)
 replace Mb := Lib.hid (Mag.later Mb.out hc7)
 replace Mc := Lib.hid (Mag.later Mc.out hc7)
 replace Md := Lib.hid (Mag.later Md.out hc7)
 replace BR := Box.later (BR) hc7; replace cBR := BR.cell; replace fBR := BR.free
 refine hJ _ _ hc7 ?_
 clear hJ J
 refine walk_ext rfl rfl (fun w8 hb8 J hJ => ?_); go_simp
 replace Mb := Lib.hid (Mag.later Mb.out hb8)
 replace Md := Lib.hid (Mag.later Md.out hb8)
 replace Ms := Lib.hid (Mag.later Ms.out hb8)
 replace BR := Box.later (BR) hb8; replace cBR := BR.cell; replace fBR := BR.free
 refine (signed_ok _ s _ _ magA).mono ?_
 rintro e v8 ⟨v, rfl, hc8, hv⟩
 obtain ⟨paMv, lMv, caMv, rfl, Mv⟩ := hv; replace Mv := Lib.hid Mv
 replace Mb := Lib.hid (Mag.later Mb.out hc8)
 replace Md := Lib.hid (Mag.later Md.out hc8)
 replace Ms := Lib.hid (Mag.later Ms.out hc8)
 replace BR := Box.later (BR) hc8; replace cBR := BR.cell; replace fBR := BR.free
 refine hJ _ _ hc8 ?_
 clear hJ J
 refine walk_ext rfl rfl (fun w9 hb9 J hJ => ?_); go_simp
 replace Mb := Lib.hid (Mag.later Mb.out hb9)
 replace Md := Lib.hid (Mag.later Md.out hb9)
 replace Mv := Lib.hid (Mag.later Mv.out hb9)
 replace BR := Box.later (BR) hb9; replace cBR := BR.cell; replace fBR := BR.free
 refine ((times_ok _ _ b d _ magA magA Kb.out Kd.out).mono (by rw [Et.out]; exact fun _ _ h => h)).mono ?_
 rintro e v9 ⟨v, rfl, hc9, hv⟩
 obtain ⟨paMt, lMt, caMt, rfl⟩ := hv.slice; have Mt := Lib.hid hv; clear hv
 replace Mb := Lib.hid (Mag.later Mb.out hc9)
 replace Md := Lib.hid (Mag.later Md.out hc9)
 replace Mv := Lib.hid (Mag.later Mv.out hc9)
 replace BR := Box.later (BR) hc9; replace cBR := BR.cell; replace fBR := BR.free
 refine hJ _ _ hc9 ?_
 clear hJ J
 repeat (first | (refine walk_pure0 rfl rfl (fun J hJ => ?_); go_simp; refine hJ _ ?_; clear hJ J) | (refine walk_load rfl rfl rfl rfl (fun J hJ => ?_); go_simp; refine hJ _ ?_; clear hJ J; try go_simp))
 refine walk_fin [_] rfl (fun w14 hb14 => ?_)
 replace BR := Box.later (BR) hb14; replace cBR := BR.cell; replace fBR := BR.free
 go_wp2_with fail
 refine ret_c rfl rfl boxA Tryz.underlying124 rfl (by kernel_rfl) ?_
 exact ⟨_, rfl, belA, RatV.mk (sgd s (!(decide (p.num < 0) == decide (q.num < 0)))).natAbs t magA magA (by rw [HP.out.1]) HP.out.2.symm (by rw [HP.out.1])⟩
end Go.Proofs.frac
namespace Go.Proofs.frac
open Go Go.RowKit Go.SW Go.Num Go.Mem Go.Proofs Go.Dec Go.Fra
set_option maxRecDepth 10000 in
theorem result_bad (w : World) :
  Calls Tryz.prog 81 #[.agg #[.slice none 0 0, .bool false, .slice none 0 0], .int .i64 20] w (fun e w' => e = .returned (.tuple #[.agg #[.string ⟨#[]⟩, .string ⟨#[]⟩], .int .i64 20]) ∧ Below w.heap.size w w') := by
 go_enter Tryz.func81, Tryz.ntmps81
 go_wp2_with fail
 refine ret_ct rfl rfl boxA Tryz.underlying40 rfl (by kernel_rfl) ?_
 exact ⟨rfl, belA⟩
set_option maxRecDepth 10000 in
theorem result_ok (v : Value) (q : Rat) (w : World) (h : RatV w v q) (k : szq 1000000 q) (ht : Bld.Pow w) :
  Calls Tryz.prog 81 #[v, .int .i64 0] w (fun e w' => e = .returned (Fr.res (wr q)) ∧ Below w.heap.size w w') := by
 obtain ⟨paH, lH, caH, pbH, mH, cbH, rfl, H, Hd⟩ := h; replace H := Lib.hid H; replace Hd := Lib.hid Hd
 have HT := Lib.hid ht
 have K := Lib.hid k
 clear ht k
 obtain ⟨x, Ex⟩ : ∃ y : FrI, Hid (wr q = y) := ⟨_, Lib.hid rfl⟩
 rw [Ex.out]
 obtain ⟨⟨s, t⟩, e⟩ := x
 rw [res_mk]
 go_enter Tryz.func81, Tryz.ntmps81
 go_wp2_with fail
 refine ((write_ok _ q _ (RatV.of magA magA) K.out (HT.out.later belA)).mono (by rw [Ex.out, res_mk]; exact fun _ _ h => h)).mono ?_
 rintro e v1 ⟨rfl, hc1⟩
 have BR := Box.later (Box.at1 _ _ _ _) hc1; have cBR := BR.cell; have fBR := BR.free; have lBR := BR.lt
 go_wp2_with fail
 refine ret_ct rfl rfl boxA Tryz.underlying40 rfl (by kernel_rfl) ?_
 exact ⟨rfl, belA⟩
set_option maxRecDepth 10000 in
set_option maxHeartbeats 400000 in
theorem apply_mul (s t s' t' : ByteArray) (w : World) (p q : Rat) (h : rd ⟨s, t⟩ = some p) (k : rd ⟨s', t'⟩ = some q) :
  Calls Tryz.prog 82 #[.agg #[.string s, .string t], .agg #[.string s', .string t'], .func (.func 83) #[] #[]] w (fun e w' => ∃ v, e = .returned (.tuple #[v, .int .i64 0]) ∧ Below w.heap.size w w' ∧ RatV w' v (p * q)) := by
 have HR := Lib.hid (read_of h)
 have HS := Lib.hid (read_of k)
 have KP := Lib.hid ((okq_sz (of_rd h).2).mono (show 67 ≤ 1000000 by omega))
 have KQ := Lib.hid ((okq_sz (of_rd k).2).mono (show 67 ≤ 1000000 by omega))
 clear h k
 obtain ⟨r, Er⟩ : ∃ y : Rat, Hid (p * q = y) := ⟨_, Lib.hid rfl⟩
 rw [Er.out]
 go_enter Tryz.func82, Tryz.ntmps82
 go_wp2_with fail
 refine (HR.out _).mono ?_
 rintro e v1 ⟨v, rfl, hc1, hv⟩
 obtain ⟨paHp, lHp, caHp, pbHp, mHp, cbHp, rfl, Hp, Hpd⟩ := hv; replace Hp := Lib.hid Hp; replace Hpd := Lib.hid Hpd
 have BR := Box.later (Box.at2 _ _ _ _ _) hc1; have cBR := BR.cell; have fBR := BR.free; have lBR := BR.lt
 have B1 := Box.later (Box.alloc (Box.at1 _ _ _ _) _) hc1; have cB1 := B1.cell; have fB1 := B1.free; have lB1 := B1.lt
 go_wp2_with fail
 refine (HS.out _).mono ?_
 rintro e v2 ⟨v, rfl, hc2, hv⟩
 obtain ⟨paHq, lHq, caHq, pbHq, mHq, cbHq, rfl, Hq, Hqd⟩ := hv; replace Hq := Lib.hid Hq; replace Hqd := Lib.hid Hqd
 replace Hp := Lib.hid (Mag.carry Hp.out magA hc2)
 replace Hpd := Lib.hid (Mag.carry Hpd.out magA hc2)
 replace X1 : Box _ (v1.heap.size) _ _ := Box.later boxA hc2; (try simp only [List.setIfInBounds_toArray, List.set_cons_zero, List.set_cons_succ] at X1); replace cX1 := X1.cell; replace fX1 := X1.free; replace lX1 := X1.lt
 replace BR : Box _ (w.heap.size + 1 + 1) _ _ := Box.later boxA hc2; (try simp only [List.setIfInBounds_toArray, List.set_cons_zero, List.set_cons_succ] at BR); replace cBR := BR.cell; replace fBR := BR.free; replace lBR := BR.lt
 go_wp2_with fail
 refine ((mul_ok _ _ p q _ (RatV.of magA magA) (RatV.of magA magA) KP.out KQ.out).mono (by rw [Er.out]; exact fun _ _ h => h)).mono ?_
 rintro e v3 ⟨v, rfl, hc3, hv⟩
 obtain ⟨paHr, lHr, caHr, pbHr, mHr, cbHr, rfl, Hr, Hrd⟩ := hv; replace Hr := Lib.hid Hr; replace Hrd := Lib.hid Hrd
 replace BR : Box _ (w.heap.size + 1 + 1) _ _ := Box.later boxA hc3; (try simp only [List.setIfInBounds_toArray, List.set_cons_zero, List.set_cons_succ] at BR); replace cBR := BR.cell; replace fBR := BR.free; replace lBR := BR.lt
 go_wp2_with fail
 refine ret_ct rfl rfl boxA Tryz.underlying124 rfl (by kernel_rfl) ?_
 exact ⟨_, rfl, belA, RatV.of magA magA⟩
set_option maxRecDepth 10000 in
set_option maxHeartbeats 400000 in
theorem apply_mul_bad (s t s' t' : ByteArray) (w : World) (h : rd ⟨s, t⟩ = none ∨ rd ⟨s', t'⟩ = none) :
  Calls Tryz.prog 82 #[.agg #[.string s, .string t], .agg #[.string s', .string t'], .func (.func 83) #[] #[]] w (fun e w' => e = .returned (.tuple #[.agg #[.slice none 0 0, .bool false, .slice none 0 0], .int .i64 20]) ∧ Below w.heap.size w w') := by
 cases h1 : rd ⟨s, t⟩ with
 | none =>
  have HR := Lib.hid (read_not h1)
  cases k : rd ⟨s', t'⟩ with
  | none =>
   have HS := Lib.hid (read_not k)
   clear h k h1
   go_enter Tryz.func82, Tryz.ntmps82
   go_wp2_with fail
   refine (HR.out _).mono ?_
   rintro e v1 ⟨rfl, hc1⟩
   have BR := Box.later (Box.at2 _ _ _ _ _) hc1; have cBR := BR.cell; have fBR := BR.free; have lBR := BR.lt
   have B1 := Box.later (Box.alloc (Box.at1 _ _ _ _) _) hc1; have cB1 := B1.cell; have fB1 := B1.free; have lB1 := B1.lt
   go_wp2_with fail
   refine (HS.out _).mono ?_
   rintro e v2 ⟨rfl, hc2⟩
   replace BR : Box _ (w.heap.size + 1 + 1) _ _ := Box.later boxA hc2; replace cBR := BR.cell; replace fBR := BR.free; replace lBR := BR.lt
   have q1 : w.heap.size + 1 < v2.heap.size := by omega
   go_wp2_with fail
   refine ret_ct rfl rfl boxA Tryz.underlying124 rfl (by kernel_rfl) ?_
   exact ⟨rfl, belA⟩
  | some q =>
   have HS := Lib.hid (read_of k)
   clear h k h1
   go_enter Tryz.func82, Tryz.ntmps82
   go_wp2_with fail
   refine (HR.out _).mono ?_
   rintro e v1 ⟨rfl, hc1⟩
   have BR := Box.later (Box.at2 _ _ _ _ _) hc1; have cBR := BR.cell; have fBR := BR.free; have lBR := BR.lt
   have B1 := Box.later (Box.alloc (Box.at1 _ _ _ _) _) hc1; have cB1 := B1.cell; have fB1 := B1.free; have lB1 := B1.lt
   go_wp2_with fail
   refine (HS.out _).mono ?_
   rintro e v2 ⟨v, rfl, hc2, hv⟩
   obtain ⟨paHq, lHq, caHq, pbHq, mHq, cbHq, rfl, Hq, Hqd⟩ := hv; replace Hq := Lib.hid Hq; replace Hqd := Lib.hid Hqd
   replace BR : Box _ (w.heap.size + 1 + 1) _ _ := Box.later boxA hc2; replace cBR := BR.cell; replace fBR := BR.free; replace lBR := BR.lt
   have q1 : w.heap.size + 1 < v2.heap.size := by omega
   go_wp2_with fail
   refine ret_ct rfl rfl boxA Tryz.underlying124 rfl (by kernel_rfl) ?_
   exact ⟨rfl, belA⟩
 | some p =>
  have HR := Lib.hid (read_of h1)
  cases k : rd ⟨s', t'⟩ with
  | none =>
   have HS := Lib.hid (read_not k)
   clear h k h1
   go_enter Tryz.func82, Tryz.ntmps82
   go_wp2_with fail
   refine (HR.out _).mono ?_
   rintro e v1 ⟨v, rfl, hc1, hv⟩
   obtain ⟨paHp, lHp, caHp, pbHp, mHp, cbHp, rfl, Hp, Hpd⟩ := hv; replace Hp := Lib.hid Hp; replace Hpd := Lib.hid Hpd
   have BR := Box.later (Box.at2 _ _ _ _ _) hc1; have cBR := BR.cell; have fBR := BR.free; have lBR := BR.lt
   have B1 := Box.later (Box.alloc (Box.at1 _ _ _ _) _) hc1; have cB1 := B1.cell; have fB1 := B1.free; have lB1 := B1.lt
   go_wp2_with fail
   refine (HS.out _).mono ?_
   rintro e v2 ⟨rfl, hc2⟩
   replace BR : Box _ (w.heap.size + 1 + 1) _ _ := Box.later boxA hc2; replace cBR := BR.cell; replace fBR := BR.free; replace lBR := BR.lt
   have q1 : w.heap.size + 1 < v2.heap.size := by omega
   go_wp2_with fail
   refine ret_ct rfl rfl boxA Tryz.underlying124 rfl (by kernel_rfl) ?_
   exact ⟨rfl, belA⟩
  | some q => rw [h1, k] at h; simp at h
set_option maxRecDepth 10000 in
theorem Mul_ok (a b : Fr) (w : World) (ht : Bld.Pow w) :
  Calls Tryz.prog 36 #[a.v, b.v] w (fun e w' => e = .returned (Fr.res (mulF a b)) ∧ Below w.heap.size w w') := by
 obtain ⟨s, t⟩ := a
 obtain ⟨s', t'⟩ := b
 show Calls _ _ #[.agg #[.string s, .string t], .agg #[.string s', .string t']] _ _
 unfold mulF
 have HT := Lib.hid ht
 clear ht
 by_cases hbad : rd ⟨s, t⟩ = none ∨ rd ⟨s', t'⟩ = none
 ·have e : ∀ f, bin f ⟨s, t⟩ ⟨s', t'⟩ = (Fr.no, 20) := fun f => by
   rcases hbad with h | h
   ·exact bin_no1 h
   ·exact bin_no2 h
  rw [e]
  have HA := Lib.hid (fun w => apply_mul_bad s t s' t' w hbad)
  clear hbad e
  go_enter Tryz.func36, Tryz.ntmps36
  go_wp2_with fail
  refine (HA.out _).mono ?_
  rintro e v1 ⟨rfl, hc1⟩
  have BR := Box.later (Box.at2 _ _ _ _ _) hc1; have cBR := BR.cell; have fBR := BR.free; have lBR := BR.lt
  go_wp2_with fail
  refine (result_bad _).mono ?_
  rintro e v2 ⟨rfl, hc2⟩
  replace BR := Box.later (BR) hc2; replace cBR := BR.cell; replace fBR := BR.free; replace lBR := BR.lt
  go_wp2_with fail
  refine ret_ct rfl rfl boxA Tryz.underlying40 rfl (by kernel_rfl) ?_
  exact ⟨rfl, belA⟩
 ·obtain ⟨p, hp⟩ : ∃ p, rd ⟨s, t⟩ = some p := Option.ne_none_iff_exists'.1 (fun e => hbad (.inl e))
  obtain ⟨q, hq⟩ : ∃ q, rd ⟨s', t'⟩ = some q := Option.ne_none_iff_exists'.1 (fun e => hbad (.inr e))
  rw [bin_some hp hq]
  have KP := Lib.hid (okq_sz (of_rd hp).2)
  have KQ := Lib.hid (okq_sz (of_rd hq).2)
  have HA := Lib.hid (fun w => apply_mul s t s' t' w p q hp hq)
  have KR : Hid (szq 1000000 (p * q)) := Lib.hid (szq.mono (k := 135) ((szq_mul KP.out KQ.out).mono (by omega)) (by omega))
  clear hp hq hbad KP KQ
  obtain ⟨r, Er⟩ : ∃ y : Rat, Hid (p * q = y) := ⟨_, Lib.hid rfl⟩
  simp only [Er.out] at KR HA ⊢
  obtain ⟨x, Ex⟩ : ∃ y : FrI, Hid (wr r = y) := ⟨_, Lib.hid rfl⟩
  rw [Ex.out]
  obtain ⟨⟨s1, t1⟩, e⟩ := x
  rw [res_mk]
  go_enter Tryz.func36, Tryz.ntmps36
  go_wp2_with fail
  refine (HA.out _).mono ?_
  rintro e v1 ⟨v, rfl, hc1, hv⟩
  obtain ⟨paHr, lHr, caHr, pbHr, mHr, cbHr, rfl, Hr, Hrd⟩ := hv; replace Hr := Lib.hid Hr; replace Hrd := Lib.hid Hrd
  have BR := Box.later (Box.at2 _ _ _ _ _) hc1; have cBR := BR.cell; have fBR := BR.free; have lBR := BR.lt
  go_wp2_with fail
  refine ((result_ok _ r _ (RatV.of magA magA) KR.out (HT.out.later belA)).mono (by rw [Ex.out, res_mk]; exact fun _ _ h => h)).mono ?_
  rintro e v2 ⟨rfl, hc2⟩
  replace BR := Box.later (BR) hc2; replace cBR := BR.cell; replace fBR := BR.free; replace lBR := BR.lt
  go_wp2_with fail
  refine ret_ct rfl rfl boxA Tryz.underlying40 rfl (by kernel_rfl) ?_
  exact ⟨rfl, belA⟩
end Go.Proofs.frac
namespace Go.Proofs.verdigrisref02
open Go Go.RowKit Go.SW Go.Num Go.Mem Go.Proofs Go.Dec Go.Proofs.verdigrisref01
/-- The value v is the fraction q in lowest terms. -/
def Ra (w : World) (v : Value) (q : Rat) : Prop := ∃ bn pn ln cn bd pd ld cd, v = .agg #[.bool bn, .slice pn ln cn, .bool bd, .slice pd ld cd] ∧ Pl w (.agg #[.bool bn, .slice pn ln cn]) q.num ∧ Pl w (.agg #[.bool bd, .slice pd ld cd]) q.den
theorem Ra.later {w w' : World} {v : Value} {q : Rat} (h : Ra w v q) (hb : Below w.heap.size w w') : Ra w' v q := by
 obtain ⟨bn, pn, ln, cn, bd, pd, ld, cd, e, h1, h2⟩ := h
 exact ⟨bn, pn, ln, cn, bd, pd, ld, cd, e, h1.later hb, h2.later hb⟩
def RaPost (w : World) (q : Rat) (e : Ending) (w' : World) : Prop := ∃ v', e = .returned v' ∧ Below w.heap.size w w' ∧ Ra w' v' q
/-- Both parts of n / d in lowest terms. -/
theorem low_parts {n d : Int} (hd : 0 < d) : ((n : Rat) / (d : Rat)).num = n / (Nat.gcd n.natAbs d.natAbs : Int) ∧ (((n : Rat) / (d : Rat)).den : Int) = d / (Nat.gcd n.natAbs d.natAbs : Int) := by
 obtain ⟨k, rfl⟩ := Int.eq_ofNat_of_zero_le (Int.le_of_lt hd)
 have hk : 0 < k := by omega
 have e : (n : Rat) / ((k : Int) : Rat) = mkRat n k := by
  rw [Rat.mkRat_eq_div]
  rfl
 have h := Fra.mk_parts n hk
 rw [e, Int.natAbs_natCast]
 refine ⟨?_, ?_⟩
 ·rw [h.1, Fra.sgd_divn (Nat.gcd_dvd_left _ _)]
 ·rw [h.2, Int.natCast_ediv]
theorem Pl.set4 {w : World} {v : Value} {z : Int} (h : Pl w v z) {b : Nat} {cs : Array Value} {T' : TypeId} (hx : Box w b cs T') (hT : 3 ≠ T') (u0 u1 u2 u3 : Value) :
  Pl ((((w.setCell ⟨b, 0, none⟩ u0).setCell ⟨b, 1, none⟩ u1).setCell ⟨b, 2, none⟩ u2).setCell ⟨b, 3, none⟩ u3) v z :=
 (h.set2 hx hT 0 1 u0 u1).set2 ((hx.set 0 u0).set 1 u1) hT 2 3 u2 u3
theorem Ra.set4 {w : World} {v : Value} {q : Rat} (h : Ra w v q) {b : Nat} {cs : Array Value} {T' : TypeId} (hx : Box w b cs T') (hT : 3 ≠ T') (u0 u1 u2 u3 : Value) :
  Ra ((((w.setCell ⟨b, 0, none⟩ u0).setCell ⟨b, 1, none⟩ u1).setCell ⟨b, 2, none⟩ u2).setCell ⟨b, 3, none⟩ u3) v q := by
 obtain ⟨bn, pn, ln, cn, bd, pd, ld, cd, e, h1, h2⟩ := h
 exact ⟨bn, pn, ln, cn, bd, pd, ld, cd, e, Pl.set4 h1 hx hT u0 u1 u2 u3, Pl.set4 h2 hx hT u0 u1 u2 u3⟩
set_option maxRecDepth 10000 in
set_option maxHeartbeats 4000000 in
theorem Lowest_pos (x y : Value) (n d : Int) (w : World) (hx : Pl w x n) (hy : Pl w y d) (ha : sz 10000 n.natAbs ≤ 274877906944) (hb : sz 10000 d.natAbs ≤ 274877906944) (hd : 0 < d) :
  Calls Tryz.prog 107 #[x, y] w (RaPost w ((n : Rat) / (d : Rat))) := by
 obtain ⟨e1, e2⟩ := low_parts (n := n) hd
 obtain ⟨q, Eq⟩ : ∃ q : Rat, (n : Rat) / (d : Rat) = q := ⟨_, rfl⟩
 rw [Eq] at e1 e2 ⊢
 obtain ⟨bA, paA, lA, caA, rfl⟩ := hx.agg
 obtain ⟨bB, paB, lB, caB, rfl⟩ := hy.agg
 have hbf : bB = false := by rw [hy.nm.2]; simp; omega
 subst hbf
 have NA := Lib.hid hx
 have NB := Lib.hid hy
 have KA := Lib.hid ha
 have KB := Lib.hid hb
 have hg0 : 0 < Nat.gcd n.natAbs d.natAbs := Nat.gcd_pos_of_pos_right _ (by omega)
 have hgd : Nat.gcd n.natAbs d.natAbs ≤ d.natAbs := Nat.le_of_dvd (by omega) (Nat.gcd_dvd_right _ _)
 have dn : ((Nat.gcd n.natAbs d.natAbs : Nat) : Int) ∣ n := by rw [← Int.dvd_natAbs, Int.ofNat_dvd]; exact Nat.gcd_dvd_left _ _
 have dd : ((Nat.gcd n.natAbs d.natAbs : Nat) : Int) ∣ d := by rw [← Int.dvd_natAbs, Int.ofNat_dvd]; exact Nat.gcd_dvd_right _ _
 have HDV := Lib.hid (fun W => Divisor_ok (.agg #[.bool bA, .slice paA lA caA]) (.agg #[.bool false, .slice paB lB caB]) n d W)
 generalize Nat.gcd n.natAbs d.natAbs = g at *
 have G0 : Hid (0 < (g : Int)) := Lib.hid (by omega)
 have KG : Hid (sz 10000 (g : Int).natAbs ≤ 274877906944) := Lib.hid (Nat.le_trans (sz_mono (by omega) (by simpa using hgd)) hb)
 have DN := Lib.hid dn
 have DD := Lib.hid dd
 have E1 := Lib.hid e1
 have E2 := Lib.hid e2
 clear e1 e2 Eq hx hy ha hb hd hg0 hgd dn dd
 go_enter Tryz.func107, Tryz.ntmps107
 go_wp2_with fail
 obtain ⟨wq1, EW, hz, X1, X2, X3⟩ := al3 w #[.bool bA, .slice paA lA caA] 95 #[.bool false, .slice paB lB caB] 95 #[.bool false, .slice none 0 0, .bool false, .slice none 0 0] 97
 rw [EW]
 replace NA := Lib.hid (NA.out.later hz)
 replace NB := Lib.hid (NB.out.later hz)
 have hk2 := Bt (Below.refl _ _) hz
 clear EW hz
 refine (HDV.out _ NA.out NB.out KA.out KB.out).mono ?_
 rintro e wc3 ⟨v, rfl, hb3, hv4⟩
 obtain ⟨bG, paG, lG, caG, rfl⟩ := hv4.agg
 replace NA := Lib.hid (NA.out.later hb3)
 replace NB := Lib.hid (NB.out.later hb3)
 replace X1 := Lib.hid (X1.out.later hb3)
 replace X2 := Lib.hid (X2.out.later hb3)
 replace X3 := Lib.hid (X3.out.later hb3)
 have hk5 := Bt hk2 hb3
 clear hk2
 have NG := Lib.hid hv4
 clear hb3 hv4
 have cX1 := X1.out.cell; have lX1 := X1.out.lt; have fX1 := X1.out.free
 go_upto_region 4 with fail
 clear cX1 lX1 fX1
 obtain ⟨wq6, EW, hz, X4⟩ := al1 wc3 #[.bool bG, .slice paG lG caG] 95
 rw [EW]
 replace NA := Lib.hid (NA.out.later hz)
 replace NB := Lib.hid (NB.out.later hz)
 replace X1 := Lib.hid (X1.out.later hz)
 replace X2 := Lib.hid (X2.out.later hz)
 replace X3 := Lib.hid (X3.out.later hz)
 replace NG := Lib.hid (NG.out.later hz)
 have hk7 := Bt hk5 hz
 clear hk5
 clear EW hz
 generalize wc3.heap.size = pq6 at *
 have cX1 := X1.out.cell; have lX1 := X1.out.lt; have fX1 := X1.out.free
 have cX4 := X4.out.cell; have lX4 := X4.out.lt; have fX4 := X4.out.free
 go_wp2_with fail
 clear cX1 lX1 fX1 cX4 lX4 fX4
 refine (Parts_ok _ _ _ _ _ NA.out NG.out KA.out KG.out G0.out (.inr DN.out)).mono ?_
 rintro e wc8 ⟨vx, vy, rfl, hb8, hq, hr⟩
 obtain ⟨bX, paX, lX, caX, rfl⟩ := hq.agg
 obtain ⟨bU, paU, lU, caU, rfl⟩ := hr.agg
 replace NA := Lib.hid (NA.out.later hb8)
 replace NB := Lib.hid (NB.out.later hb8)
 replace X1 := Lib.hid (X1.out.later hb8)
 replace X2 := Lib.hid (X2.out.later hb8)
 replace X3 := Lib.hid (X3.out.later hb8)
 replace NG := Lib.hid (NG.out.later hb8)
 replace X4 := Lib.hid (X4.out.later hb8)
 have hk10 := Bt hk7 hb8
 clear hk7
 have NX := Lib.hid hq
 clear hb8 hq
 have cX2 := X2.out.cell; have lX2 := X2.out.lt; have fX2 := X2.out.free
 have cX4 := X4.out.cell; have lX4 := X4.out.lt; have fX4 := X4.out.free
 go_upto_region 5 with fail
 clear cX2 lX2 fX2 cX4 lX4 fX4
 obtain ⟨wq11, EW, hz, X5, -⟩ := al2 wc8 #[.bool bX, .slice paX lX caX] 95 #[.bool bU, .slice paU lU caU] 95
 rw [EW]
 clear NA
 replace NB := Lib.hid (NB.out.later hz)
 clear X1
 replace X2 := Lib.hid (X2.out.later hz)
 replace X3 := Lib.hid (X3.out.later hz)
 replace NG := Lib.hid (NG.out.later hz)
 replace X4 := Lib.hid (X4.out.later hz)
 replace NX := Lib.hid (NX.out.later hz)
 have hk12 := Bt hk10 hz
 clear hk10
 clear EW hz
 generalize wc8.heap.size = pq11 at *
 have cX2 := X2.out.cell; have lX2 := X2.out.lt; have fX2 := X2.out.free
 have cX4 := X4.out.cell; have lX4 := X4.out.lt; have fX4 := X4.out.free
 go_wp2_with fail
 clear cX2 lX2 fX2 cX4 lX4 fX4
 refine (Parts_ok _ _ _ _ _ NB.out NG.out KB.out KG.out G0.out (.inr DD.out)).mono ?_
 rintro e wc13 ⟨vx, vy, rfl, hb13, hq, hr⟩
 obtain ⟨bY, paY, lY, caY, rfl⟩ := hq.agg
 obtain ⟨bV, paV, lV, caV, rfl⟩ := hr.agg
 replace NB := Lib.hid (NB.out.later hb13)
 replace X2 := Lib.hid (X2.out.later hb13)
 replace X3 := Lib.hid (X3.out.later hb13)
 replace NG := Lib.hid (NG.out.later hb13)
 replace X4 := Lib.hid (X4.out.later hb13)
 replace NX := Lib.hid (NX.out.later hb13)
 replace X5 := Lib.hid (X5.out.later hb13)
 have hk15 := Bt hk12 hb13
 clear hk12
 have NY := Lib.hid hq
 clear hb13 hq
 have cX5 := X5.out.cell; have lX5 := X5.out.lt; have fX5 := X5.out.free
 have cX3 := X3.out.cell; have lX3 := X3.out.lt; have fX3 := X3.out.free
 go_upto_region 6 with fail
 clear cX5 lX5 fX5 cX3 lX3 fX3
 obtain ⟨wq16, EW, hz, X7, -⟩ := al2 wc13 #[.bool bY, .slice paY lY caY] 95 #[.bool bV, .slice paV lV caV] 95
 rw [EW]
 clear NB
 clear X2
 replace X3 := Lib.hid (X3.out.later hz)
 clear NG
 clear X4
 replace NX := Lib.hid (NX.out.later hz)
 replace X5 := Lib.hid (X5.out.later hz)
 replace NY := Lib.hid (NY.out.later hz)
 have hk17 := Bt hk15 hz
 clear hk15
 clear EW hz
 generalize wc13.heap.size = pq16 at *
 have cX5 := X5.out.cell; have lX5 := X5.out.lt; have fX5 := X5.out.free
 have cX7 := X7.out.cell; have lX7 := X7.out.lt; have fX7 := X7.out.free
 have cX3 := X3.out.cell; have lX3 := X3.out.lt; have fX3 := X3.out.free
 have hres := X3.out
 have cres := hres.cell
 have fres := hres.free
 go_wp2_with fail
 refine ret_c rfl rfl boxA Tryz.underlying97 rfl (by kernel_rfl) ?_
 have hx := Pl.set4 NX.out hres (by decide) (.bool bX) (.slice paX lX caX) (.bool bY) (.slice paY lY caY)
 have hy := Pl.set4 NY.out hres (by decide) (.bool bX) (.slice paX lX caX) (.bool bY) (.slice paY lY caY)
 rw [← E1.out] at hx
 rw [← E2.out] at hy
 exact ⟨_, rfl, belA, _, _, _, _, _, _, _, _, rfl, hx, hy⟩
set_option maxRecDepth 10000 in
set_option maxHeartbeats 4000000 in
theorem Lowest_neg (x y : Value) (n d : Int) (w : World) (hx : Pl w x n) (hy : Pl w y d) (ha : sz 10000 n.natAbs ≤ 274877906944) (hb : sz 10000 d.natAbs ≤ 274877906944) (hd : d < 0) :
  Calls Tryz.prog 107 #[x, y] w (RaPost w ((n : Rat) / (d : Rat))) := by
 obtain ⟨e1, e2⟩ := low_parts (n := -n) (d := -d) (by omega)
 rw [show ((-n : Int) : Rat) / ((-d : Int) : Rat) = (n : Rat) / (d : Rat) by rw [Rat.intCast_neg, Rat.intCast_neg, Rat.div_def, Rat.div_def]; grind, Int.natAbs_neg, Int.natAbs_neg] at e1 e2
 obtain ⟨q, Eq⟩ : ∃ q : Rat, (n : Rat) / (d : Rat) = q := ⟨_, rfl⟩
 rw [Eq] at e1 e2 ⊢
 obtain ⟨bA, paA, lA, caA, rfl⟩ := hx.agg
 obtain ⟨bB, paB, lB, caB, rfl⟩ := hy.agg
 have hbf : bB = true := by rw [hy.nm.2]; simp; omega
 subst hbf
 have NA := Lib.hid hx
 have NB := Lib.hid hy
 have KA := Lib.hid ha
 have KB := Lib.hid hb
 have hg0 : 0 < Nat.gcd n.natAbs d.natAbs := Nat.gcd_pos_of_pos_right _ (by omega)
 have hgd : Nat.gcd n.natAbs d.natAbs ≤ d.natAbs := Nat.le_of_dvd (by omega) (Nat.gcd_dvd_right _ _)
 have dn : ((Nat.gcd n.natAbs d.natAbs : Nat) : Int) ∣ -n := by rw [Int.dvd_neg]; rw [← Int.dvd_natAbs, Int.ofNat_dvd]; exact Nat.gcd_dvd_left _ _
 have dd : ((Nat.gcd n.natAbs d.natAbs : Nat) : Int) ∣ -d := by rw [Int.dvd_neg]; rw [← Int.dvd_natAbs, Int.ofNat_dvd]; exact Nat.gcd_dvd_right _ _
 have HDV := Lib.hid (fun x y W => Divisor_ok x y (-n) (-d) W)
 have KA' : Hid (sz 10000 (-n).natAbs ≤ 274877906944) := Lib.hid (by rw [Int.natAbs_neg]; exact ha)
 have KB' : Hid (sz 10000 (-d).natAbs ≤ 274877906944) := Lib.hid (by rw [Int.natAbs_neg]; exact hb)
 rw [Int.natAbs_neg, Int.natAbs_neg] at HDV
 generalize Nat.gcd n.natAbs d.natAbs = g at *
 have G0 : Hid (0 < (g : Int)) := Lib.hid (by omega)
 have KG : Hid (sz 10000 (g : Int).natAbs ≤ 274877906944) := Lib.hid (Nat.le_trans (sz_mono (by omega) (by simpa using hgd)) hb)
 have DN := Lib.hid dn
 have DD := Lib.hid dd
 have E1 := Lib.hid e1
 have E2 := Lib.hid e2
 clear e1 e2 Eq hx hy ha hb hd hg0 hgd dn dd
 go_enter Tryz.func107, Tryz.ntmps107
 go_wp2_with fail
 obtain ⟨wq1, EW, hz, X1, X2, X3⟩ := al3 w #[.bool bA, .slice paA lA caA] 95 #[.bool true, .slice paB lB caB] 95 #[.bool false, .slice none 0 0, .bool false, .slice none 0 0] 97
 rw [EW]
 replace NA := Lib.hid (NA.out.later hz)
 replace NB := Lib.hid (NB.out.later hz)
 have hk2 := Bt (Below.refl _ _) hz
 clear EW hz
 have cX1 := X1.out.cell; have lX1 := X1.out.lt; have fX1 := X1.out.free
 have cX2 := X2.out.cell; have lX2 := X2.out.lt; have fX2 := X2.out.free
 refine wp_region_walk [(.read, 0), (.read, 2), (.ext, 1), (.ext, 3), (.fin, 4), (.fin, 5)] (by kernel_rfl) (by kernel_rfl) (allocRuns_of (by kernel_rfl)) (fun _ _ _ _ hd h => And.intro (hd.trans (And.left h)) (And.right h)) ?_
 repeat (first | (refine walk_pure0 rfl rfl (fun J hJ => ?_); go_simp; refine hJ _ ?_; clear hJ J) | (refine walk_load rfl rfl rfl rfl (fun J hJ => ?_); go_simp; refine hJ _ ?_; clear hJ J; try go_simp))
 refine walk_ext rfl rfl (fun we3 hb3 J hJ => ?_); go_simp
 have hh3 : Below wq1.heap.size wq1 we3 := belA
 clear hb3
 refine (Turn_ok _ _ _ (NA.out.later hh3)).mono ?_
 rintro e wc4 ⟨v, rfl, hb4, hv5⟩
 obtain ⟨bC, paC, lC, caC, rfl⟩ := hv5.agg
 refine hJ _ _ hb4 ?_
 clear hJ J
 have hh4 := Bt hh3 hb4
 have NC := Lib.hid hv5
 clear hh3 hb4 hv5
 repeat (first | (refine walk_pure0 rfl rfl (fun J hJ => ?_); go_simp; refine hJ _ ?_; clear hJ J) | (refine walk_load rfl rfl rfl rfl (fun J hJ => ?_); go_simp; refine hJ _ ?_; clear hJ J; try go_simp))
 refine walk_ext rfl rfl (fun we6 hb6 J hJ => ?_); go_simp
 have hh6 : Below wq1.heap.size wq1 we6 := Bt hh4 belA
 replace NC := Lib.hid (NC.out.later (show Below wc4.heap.size wc4 we6 from belA))
 clear hb6 hh4
 refine (Turn_ok _ _ _ (NB.out.later hh6)).mono ?_
 rintro e wc7 ⟨v, rfl, hb7, hv8⟩
 obtain ⟨bD, paD, lD, caD, rfl⟩ := hv8.agg
 refine hJ _ _ hb7 ?_
 clear hJ J
 have hh7 := Bt hh6 hb7
 replace NC := Lib.hid (NC.out.later hb7)
 have ND := Lib.hid hv8
 clear hh6 hb7 hv8
 repeat (first | (refine walk_pure0 rfl rfl (fun J hJ => ?_); go_simp; refine hJ _ ?_; clear hJ J) | (refine walk_load rfl rfl rfl rfl (fun J hJ => ?_); go_simp; refine hJ _ ?_; clear hJ J; try go_simp))
 refine walk_fin [_, _] rfl (fun wf9 hf9 => ?_)
 replace NC := Lib.hid (NC.out.later (show Below wc7.heap.size wc7 wf9 from belA))
 replace ND := Lib.hid (ND.out.later (show Below wc7.heap.size wc7 wf9 from belA))
 have hh9 : Below wq1.heap.size wq1 wf9 := Bt hh7 belA
 clear hf9 hh7
 clear cX1 lX1 fX1 cX2 lX2 fX2
 replace NA := Lib.hid (NA.out.later hh9)
 replace NB := Lib.hid (NB.out.later hh9)
 replace X1 := Lib.hid (X1.out.later hh9)
 replace X2 := Lib.hid (X2.out.later hh9)
 replace X3 := Lib.hid (X3.out.later hh9)
 have hk10 := Bt hk2 hh9
 clear hk2
 clear hh9
 have cX1 := X1.out.cell; have lX1 := X1.out.lt; have fX1 := X1.out.free
 have cX2 := X2.out.cell; have lX2 := X2.out.lt; have fX2 := X2.out.free
 go_upto_region 3 with fail
 clear cX1 lX1 fX1 cX2 lX2 fX2
 have hz : Below w.heap.size w ((((wf9.setCell ⟨w.heap.size, 0, none⟩ (.bool bC)).setCell ⟨w.heap.size, 1, none⟩ (.slice paC lC caC)).setCell ⟨w.heap.size + 1, 0, none⟩ (.bool bD)).setCell ⟨w.heap.size + 1, 1, none⟩ (.slice paD lD caD)) := belA
 obtain ⟨wq11, EW⟩ : ∃ y, ((((wf9.setCell ⟨w.heap.size, 0, none⟩ (.bool bC)).setCell ⟨w.heap.size, 1, none⟩ (.slice paC lC caC)).setCell ⟨w.heap.size + 1, 0, none⟩ (.bool bD)).setCell ⟨w.heap.size + 1, 1, none⟩ (.slice paD lD caD)) = y := ⟨_, rfl⟩
 have tX1 := ((((X1.out.set 0 (.bool bC)).set 1 (.slice paC lC caC)).setOther (a := ⟨w.heap.size + 1, 0, none⟩) (.bool bD) (by first | assumption | (simp; done) | (simp; omega))).setOther (a := ⟨w.heap.size + 1, 1, none⟩) (.slice paD lD caD) (by first | assumption | (simp; done) | (simp; omega)))
 have tX2 := ((((X2.out.setOther (a := ⟨w.heap.size, 0, none⟩) (.bool bC) (by first | assumption | (simp; done) | (simp; omega))).setOther (a := ⟨w.heap.size, 1, none⟩) (.slice paC lC caC) (by first | assumption | (simp; done) | (simp; omega))).set 0 (.bool bD)).set 1 (.slice paD lD caD))
 have tX3 := ((((X3.out.setOther (a := ⟨w.heap.size, 0, none⟩) (.bool bC) (by first | assumption | (simp; done) | (simp; omega))).setOther (a := ⟨w.heap.size, 1, none⟩) (.slice paC lC caC) (by first | assumption | (simp; done) | (simp; omega))).setOther (a := ⟨w.heap.size + 1, 0, none⟩) (.bool bD) (by first | assumption | (simp; done) | (simp; omega))).setOther (a := ⟨w.heap.size + 1, 1, none⟩) (.slice paD lD caD) (by first | assumption | (simp; done) | (simp; omega)))
 have tNC := ((((NC.out.setOther X1.out (by decide) 0 (.bool bC)).setOther (X1.out.set 0 (.bool bC)) (by decide) 1 (.slice paC lC caC)).setOther ((X2.out.setOther (a := ⟨w.heap.size, 0, none⟩) (.bool bC) (by first | assumption | (simp; done) | (simp; omega))).setOther (a := ⟨w.heap.size, 1, none⟩) (.slice paC lC caC) (by first | assumption | (simp; done) | (simp; omega))) (by decide) 0 (.bool bD)).setOther (((X2.out.setOther (a := ⟨w.heap.size, 0, none⟩) (.bool bC) (by first | assumption | (simp; done) | (simp; omega))).setOther (a := ⟨w.heap.size, 1, none⟩) (.slice paC lC caC) (by first | assumption | (simp; done) | (simp; omega))).set 0 (.bool bD)) (by decide) 1 (.slice paD lD caD))
 have tND := ((((ND.out.setOther X1.out (by decide) 0 (.bool bC)).setOther (X1.out.set 0 (.bool bC)) (by decide) 1 (.slice paC lC caC)).setOther ((X2.out.setOther (a := ⟨w.heap.size, 0, none⟩) (.bool bC) (by first | assumption | (simp; done) | (simp; omega))).setOther (a := ⟨w.heap.size, 1, none⟩) (.slice paC lC caC) (by first | assumption | (simp; done) | (simp; omega))) (by decide) 0 (.bool bD)).setOther (((X2.out.setOther (a := ⟨w.heap.size, 0, none⟩) (.bool bC) (by first | assumption | (simp; done) | (simp; omega))).setOther (a := ⟨w.heap.size, 1, none⟩) (.slice paC lC caC) (by first | assumption | (simp; done) | (simp; omega))).set 0 (.bool bD)) (by decide) 1 (.slice paD lD caD))
 clear NA
 clear NB
 rw [EW] at tX1
 replace X1 : Hid (Box wq11 (w.heap.size) #[.bool bC, .slice paC lC caC] 95) := Lib.hid tX1
 clear tX1
 rw [EW] at tX2
 replace X2 : Hid (Box wq11 (w.heap.size + 1) #[.bool bD, .slice paD lD caD] 95) := Lib.hid tX2
 clear tX2
 rw [EW] at tX3
 replace X3 : Hid (Box wq11 (w.heap.size + 1 + 1) #[.bool false, .slice none 0 0, .bool false, .slice none 0 0] 97) := Lib.hid tX3
 clear tX3
 rw [EW] at tNC
 replace NC := Lib.hid tNC
 clear tNC
 rw [EW] at tND
 replace ND := Lib.hid tND
 clear tND
 rw [EW] at hz ⊢
 clear EW
 clear hk10
 have hk11 := hz
 clear hz
 have cX1 := X1.out.cell; have lX1 := X1.out.lt; have fX1 := X1.out.free
 have cX2 := X2.out.cell; have lX2 := X2.out.lt; have fX2 := X2.out.free
 go_wp2_with fail
 clear cX1 lX1 fX1 cX2 lX2 fX2
 refine (HDV.out _ _ _ NC.out ND.out KA.out KB.out).mono ?_
 rintro e wc12 ⟨v, rfl, hb12, hv13⟩
 obtain ⟨bG, paG, lG, caG, rfl⟩ := hv13.agg
 replace X1 := Lib.hid (X1.out.later hb12)
 replace X2 := Lib.hid (X2.out.later hb12)
 replace X3 := Lib.hid (X3.out.later hb12)
 replace NC := Lib.hid (NC.out.later hb12)
 replace ND := Lib.hid (ND.out.later hb12)
 have hk14 := Bt hk11 hb12
 clear hk11
 have NG := Lib.hid hv13
 clear hb12 hv13
 have cX1 := X1.out.cell; have lX1 := X1.out.lt; have fX1 := X1.out.free
 go_upto_region 4 with fail
 clear cX1 lX1 fX1
 obtain ⟨wq15, EW, hz, X4⟩ := al1 wc12 #[.bool bG, .slice paG lG caG] 95
 rw [EW]
 replace X1 := Lib.hid (X1.out.later hz)
 replace X2 := Lib.hid (X2.out.later hz)
 replace X3 := Lib.hid (X3.out.later hz)
 replace NC := Lib.hid (NC.out.later hz)
 replace ND := Lib.hid (ND.out.later hz)
 replace NG := Lib.hid (NG.out.later hz)
 have hk16 := Bt hk14 hz
 clear hk14
 clear EW hz
 generalize wc12.heap.size = pq15 at *
 have cX1 := X1.out.cell; have lX1 := X1.out.lt; have fX1 := X1.out.free
 have cX4 := X4.out.cell; have lX4 := X4.out.lt; have fX4 := X4.out.free
 go_wp2_with fail
 clear cX1 lX1 fX1 cX4 lX4 fX4
 refine (Parts_ok _ _ _ _ _ NC.out NG.out KA'.out KG.out G0.out (.inr DN.out)).mono ?_
 rintro e wc17 ⟨vx, vy, rfl, hb17, hq, hr⟩
 obtain ⟨bX, paX, lX, caX, rfl⟩ := hq.agg
 obtain ⟨bU, paU, lU, caU, rfl⟩ := hr.agg
 replace X1 := Lib.hid (X1.out.later hb17)
 replace X2 := Lib.hid (X2.out.later hb17)
 replace X3 := Lib.hid (X3.out.later hb17)
 replace NC := Lib.hid (NC.out.later hb17)
 replace ND := Lib.hid (ND.out.later hb17)
 replace NG := Lib.hid (NG.out.later hb17)
 replace X4 := Lib.hid (X4.out.later hb17)
 have hk19 := Bt hk16 hb17
 clear hk16
 have NX := Lib.hid hq
 clear hb17 hq
 have cX2 := X2.out.cell; have lX2 := X2.out.lt; have fX2 := X2.out.free
 have cX4 := X4.out.cell; have lX4 := X4.out.lt; have fX4 := X4.out.free
 go_upto_region 5 with fail
 clear cX2 lX2 fX2 cX4 lX4 fX4
 obtain ⟨wq20, EW, hz, X5, -⟩ := al2 wc17 #[.bool bX, .slice paX lX caX] 95 #[.bool bU, .slice paU lU caU] 95
 rw [EW]
 clear X1
 replace X2 := Lib.hid (X2.out.later hz)
 replace X3 := Lib.hid (X3.out.later hz)
 clear NC
 replace ND := Lib.hid (ND.out.later hz)
 replace NG := Lib.hid (NG.out.later hz)
 replace X4 := Lib.hid (X4.out.later hz)
 replace NX := Lib.hid (NX.out.later hz)
 have hk21 := Bt hk19 hz
 clear hk19
 clear EW hz
 generalize wc17.heap.size = pq20 at *
 have cX2 := X2.out.cell; have lX2 := X2.out.lt; have fX2 := X2.out.free
 have cX4 := X4.out.cell; have lX4 := X4.out.lt; have fX4 := X4.out.free
 go_wp2_with fail
 clear cX2 lX2 fX2 cX4 lX4 fX4
 refine (Parts_ok _ _ _ _ _ ND.out NG.out KB'.out KG.out G0.out (.inr DD.out)).mono ?_
 rintro e wc22 ⟨vx, vy, rfl, hb22, hq, hr⟩
 obtain ⟨bY, paY, lY, caY, rfl⟩ := hq.agg
 obtain ⟨bV, paV, lV, caV, rfl⟩ := hr.agg
 replace X2 := Lib.hid (X2.out.later hb22)
 replace X3 := Lib.hid (X3.out.later hb22)
 replace ND := Lib.hid (ND.out.later hb22)
 replace NG := Lib.hid (NG.out.later hb22)
 replace X4 := Lib.hid (X4.out.later hb22)
 replace NX := Lib.hid (NX.out.later hb22)
 replace X5 := Lib.hid (X5.out.later hb22)
 have hk24 := Bt hk21 hb22
 clear hk21
 have NY := Lib.hid hq
 clear hb22 hq
 have cX5 := X5.out.cell; have lX5 := X5.out.lt; have fX5 := X5.out.free
 have cX3 := X3.out.cell; have lX3 := X3.out.lt; have fX3 := X3.out.free
 go_upto_region 6 with fail
 clear cX5 lX5 fX5 cX3 lX3 fX3
 obtain ⟨wq25, EW, hz, X7, -⟩ := al2 wc22 #[.bool bY, .slice paY lY caY] 95 #[.bool bV, .slice paV lV caV] 95
 rw [EW]
 clear X2
 replace X3 := Lib.hid (X3.out.later hz)
 clear ND
 clear NG
 clear X4
 replace NX := Lib.hid (NX.out.later hz)
 replace X5 := Lib.hid (X5.out.later hz)
 replace NY := Lib.hid (NY.out.later hz)
 have hk26 := Bt hk24 hz
 clear hk24
 clear EW hz
 generalize wc22.heap.size = pq25 at *
 have cX5 := X5.out.cell; have lX5 := X5.out.lt; have fX5 := X5.out.free
 have cX7 := X7.out.cell; have lX7 := X7.out.lt; have fX7 := X7.out.free
 have cX3 := X3.out.cell; have lX3 := X3.out.lt; have fX3 := X3.out.free
 have hres := X3.out
 have cres := hres.cell
 have fres := hres.free
 go_wp2_with fail
 refine ret_c rfl rfl boxA Tryz.underlying97 rfl (by kernel_rfl) ?_
 have hx := Pl.set4 NX.out hres (by decide) (.bool bX) (.slice paX lX caX) (.bool bY) (.slice paY lY caY)
 have hy := Pl.set4 NY.out hres (by decide) (.bool bX) (.slice paX lX caX) (.bool bY) (.slice paY lY caY)
 rw [← E1.out] at hx
 rw [← E2.out] at hy
 exact ⟨_, rfl, belA, _, _, _, _, _, _, _, _, rfl, hx, hy⟩
theorem Lowest_ok (x y : Value) (n d : Int) (w : World) (hx : Pl w x n) (hy : Pl w y d) (ha : sz 10000 n.natAbs ≤ 274877906944) (hb : sz 10000 d.natAbs ≤ 274877906944) (hd : d ≠ 0) :
  Calls Tryz.prog 107 #[x, y] w (RaPost w ((n : Rat) / (d : Rat))) := by
 by_cases h : 0 < d
 ·exact Lowest_pos x y n d w hx hy ha hb h
 ·exact Lowest_neg x y n d w hx hy ha hb (by omega)
end Go.Proofs.verdigrisref02
namespace Go.Proofs.verdigrisref02
open Go Go.RowKit Go.SW Go.Num Go.Mem Go.Proofs Go.Dec Go.Proofs.verdigrisref01 Go.Fra
theorem outV_cases (z : Int) : ∃ (s : ByteArray) (k : Int), outV z = .tuple #[.string s, .int .i64 k] ∧ ((okn z.natAbs = true ∧ k = 0 ∧ s = ⟨(Lib.itoa z).toArray⟩) ∨ (okn z.natAbs = false ∧ k = 6)) := by
 unfold outV
 by_cases h : okn z.natAbs = true
 ·rw [if_pos h]
  exact ⟨_, _, rfl, .inl ⟨h, rfl, rfl⟩⟩
 ·rw [if_neg h]
  exact ⟨_, _, rfl, .inr ⟨by simpa using h, rfl⟩⟩
def FrPost (w : World) (x : Fr × Int) (e : Ending) (w' : World) : Prop := e = .returned (Fr.res x) ∧ Below w.heap.size w w'
set_option maxRecDepth 10000 in
set_option maxHeartbeats 4000000 in
theorem Out_ok (x : Value) (q : Rat) (w : World) (hx : Ra w x q) (h1 : sz 10000 q.num.natAbs ≤ 1073741824) (h2 : sz 10000 q.den ≤ 1073741824) :
  Calls Tryz.prog 57 #[x] w (FrPost w (wr q)) := by
 obtain ⟨bn, pn, ln, cn, bd, pd, ld, cd, rfl, NN, ND⟩ := hx
 obtain ⟨s1, k1, e1, c1⟩ := outV_cases q.num
 obtain ⟨s2, k2, e2, c2⟩ := outV_cases (q.den : Int)
 have H1 := Lib.hid (fun W (hb : Below w.heap.size w W) => verdigrisref01.Out_ok _ q.num W (NN.later hb) h1)
 have H2 := Lib.hid (fun W (hb : Below w.heap.size w W) => verdigrisref01.Out_ok _ (q.den : Int) W (ND.later hb) (by simpa using h2))
 rw [e1] at H1
 rw [e2] at H2
 have hw : wr q = if k1 = 0 ∧ k2 = 0 then (⟨s1, s2⟩, 0) else (Fr.no, 6) := by
  unfold wr okq
  rw [Int.natAbs_natCast] at c2
  rcases c1 with ⟨a1, a2, a3⟩ | ⟨a1, a2⟩ <;> rcases c2 with ⟨b1, b2, b3⟩ | ⟨b1, b2⟩ <;> subst a2 <;> subst b2 <;> rw [a1, b1]
  ·subst a3
   subst b3
   rfl
  ·rfl
  ·rfl
  ·rfl
 rw [hw]
 have d1 : k1 = 0 ∨ k1 = 6 := c1.elim (fun h => .inl h.2.1) (fun h => .inr h.2)
 have d2 : k2 = 0 ∨ k2 = 6 := c2.elim (fun h => .inl h.2.1) (fun h => .inr h.2)
 clear hw e1 e2 c1 c2 h1 h2 NN ND
 rcases d1 with rfl | rfl <;> rcases d2 with rfl | rfl
 ·rw [if_pos ⟨rfl, rfl⟩]
  go_enter Tryz.func57, Tryz.ntmps57
  go_wp2_with fail
  obtain ⟨wq1, EW, hz, X1, X2⟩ := al2 w #[.bool bn, .slice pn ln cn, .bool bd, .slice pd ld cd] 97 #[.string ⟨#[]⟩, .string ⟨#[]⟩] 40
  rw [EW]
  have hk2 := Bt (Below.refl _ _) hz
  clear EW hz
  refine (H1.out _ hk2).mono ?_
  rintro e wc3 ⟨rfl, hb3⟩
  replace X1 := Lib.hid (X1.out.later hb3)
  replace X2 := Lib.hid (X2.out.later hb3)
  have hk5 := Bt hk2 hb3
  clear hk2
  clear hb3
  have cX1 := X1.out.cell; have lX1 := X1.out.lt; have fX1 := X1.out.free
  go_wp2_with fail
  clear cX1 lX1 fX1
  refine (H2.out _ hk5).mono ?_
  rintro e wc6 ⟨rfl, hb6⟩
  replace X1 := Lib.hid (X1.out.later hb6)
  replace X2 := Lib.hid (X2.out.later hb6)
  have hk8 := Bt hk5 hb6
  clear hk5
  clear hb6
  have cX2 := X2.out.cell; have lX2 := X2.out.lt; have fX2 := X2.out.free
  have hres := X2.out
  have cres := hres.cell
  have fres := hres.free
  go_wp2_with fail
  refine ret_ct rfl rfl boxA Tryz.underlying40 rfl (by kernel_rfl) ?_
  exact ⟨rfl, belA⟩
 ·rw [if_neg (by omega)]
  go_enter Tryz.func57, Tryz.ntmps57
  go_wp2_with fail
  obtain ⟨wq1, EW, hz, X1, X2⟩ := al2 w #[.bool bn, .slice pn ln cn, .bool bd, .slice pd ld cd] 97 #[.string ⟨#[]⟩, .string ⟨#[]⟩] 40
  rw [EW]
  have hk2 := Bt (Below.refl _ _) hz
  clear EW hz
  refine (H1.out _ hk2).mono ?_
  rintro e wc3 ⟨rfl, hb3⟩
  replace X1 := Lib.hid (X1.out.later hb3)
  replace X2 := Lib.hid (X2.out.later hb3)
  have hk5 := Bt hk2 hb3
  clear hk2
  clear hb3
  have cX1 := X1.out.cell; have lX1 := X1.out.lt; have fX1 := X1.out.free
  go_wp2_with fail
  clear cX1 lX1 fX1
  refine (H2.out _ hk5).mono ?_
  rintro e wc6 ⟨rfl, hb6⟩
  replace X1 := Lib.hid (X1.out.later hb6)
  replace X2 := Lib.hid (X2.out.later hb6)
  have hk8 := Bt hk5 hb6
  clear hk5
  clear hb6
  have cX2 := X2.out.cell; have lX2 := X2.out.lt; have fX2 := X2.out.free
  have hres := X2.out
  have cres := hres.cell
  have fres := hres.free
  go_wp2_with fail
  refine ret_ct rfl rfl boxA Tryz.underlying40 rfl (by kernel_rfl) ?_
  exact ⟨rfl, belA⟩
 ·rw [if_neg (by omega)]
  go_enter Tryz.func57, Tryz.ntmps57
  go_wp2_with fail
  obtain ⟨wq1, EW, hz, X1, X2⟩ := al2 w #[.bool bn, .slice pn ln cn, .bool bd, .slice pd ld cd] 97 #[.string ⟨#[]⟩, .string ⟨#[]⟩] 40
  rw [EW]
  have hk2 := Bt (Below.refl _ _) hz
  clear EW hz
  refine (H1.out _ hk2).mono ?_
  rintro e wc3 ⟨rfl, hb3⟩
  replace X1 := Lib.hid (X1.out.later hb3)
  replace X2 := Lib.hid (X2.out.later hb3)
  have hk5 := Bt hk2 hb3
  clear hk2
  clear hb3
  have cX1 := X1.out.cell; have lX1 := X1.out.lt; have fX1 := X1.out.free
  go_wp2_with fail
  clear cX1 lX1 fX1
  refine (H2.out _ hk5).mono ?_
  rintro e wc6 ⟨rfl, hb6⟩
  replace X1 := Lib.hid (X1.out.later hb6)
  replace X2 := Lib.hid (X2.out.later hb6)
  have hk8 := Bt hk5 hb6
  clear hk5
  clear hb6
  have cX2 := X2.out.cell; have lX2 := X2.out.lt; have fX2 := X2.out.free
  have hres := X2.out
  have cres := hres.cell
  have fres := hres.free
  go_wp2_with fail
  refine ret_ct rfl rfl boxA Tryz.underlying40 rfl (by kernel_rfl) ?_
  exact ⟨rfl, belA⟩
 ·rw [if_neg (by omega)]
  go_enter Tryz.func57, Tryz.ntmps57
  go_wp2_with fail
  obtain ⟨wq1, EW, hz, X1, X2⟩ := al2 w #[.bool bn, .slice pn ln cn, .bool bd, .slice pd ld cd] 97 #[.string ⟨#[]⟩, .string ⟨#[]⟩] 40
  rw [EW]
  have hk2 := Bt (Below.refl _ _) hz
  clear EW hz
  refine (H1.out _ hk2).mono ?_
  rintro e wc3 ⟨rfl, hb3⟩
  replace X1 := Lib.hid (X1.out.later hb3)
  replace X2 := Lib.hid (X2.out.later hb3)
  have hk5 := Bt hk2 hb3
  clear hk2
  clear hb3
  have cX1 := X1.out.cell; have lX1 := X1.out.lt; have fX1 := X1.out.free
  go_wp2_with fail
  clear cX1 lX1 fX1
  refine (H2.out _ hk5).mono ?_
  rintro e wc6 ⟨rfl, hb6⟩
  replace X1 := Lib.hid (X1.out.later hb6)
  replace X2 := Lib.hid (X2.out.later hb6)
  have hk8 := Bt hk5 hb6
  clear hk5
  clear hb6
  have cX2 := X2.out.cell; have lX2 := X2.out.lt; have fX2 := X2.out.free
  have hres := X2.out
  have cres := hres.cell
  have fres := hres.free
  go_wp2_with fail
  refine ret_ct rfl rfl boxA Tryz.underlying40 rfl (by kernel_rfl) ?_
  exact ⟨rfl, belA⟩
theorem low_le {n d : Int} (hd : d ≠ 0) : ((n : Rat) / (d : Rat)).num.natAbs ≤ n.natAbs ∧ ((n : Rat) / (d : Rat)).den ≤ d.natAbs := by
 have key : ∀ n d : Int, 0 < d → ((n : Rat) / (d : Rat)).num.natAbs ≤ n.natAbs ∧ ((n : Rat) / (d : Rat)).den ≤ d.natAbs := fun n d hd => by
  obtain ⟨e1, e2⟩ := low_parts (n := n) hd
  have g1 := Nat.gcd_dvd_left n.natAbs d.natAbs
  have g2 := Nat.gcd_dvd_right n.natAbs d.natAbs
  have g0 : 0 < Nat.gcd n.natAbs d.natAbs := Nat.gcd_pos_of_pos_right _ (by omega)
  generalize Nat.gcd n.natAbs d.natAbs = g at *
  generalize ((n : Rat) / (d : Rat)) = q at *
  obtain ⟨a, ha⟩ := g1
  obtain ⟨b, hb⟩ := g2
  have h1 : n = (g : Int) * (if 0 ≤ n then (a : Int) else -(a : Int)) := by
   have := congrArg (fun x : Nat => (x : Int)) ha
   simp only [Int.natCast_mul] at this
   split
   ·omega
   ·rw [Int.mul_neg]; omega
  have h2 : d = (g : Int) * (b : Int) := by
   have := congrArg (fun x : Nat => (x : Int)) hb
   simp only [Int.natCast_mul] at this
   omega
  have h3 : n / (g : Int) = (if 0 ≤ n then (a : Int) else -(a : Int)) := by
   conv => lhs; rw [h1]
   exact Int.mul_ediv_cancel_left _ (by omega)
  have h4 : d / (g : Int) = (b : Int) := by
   rw [h2]
   exact Int.mul_ediv_cancel_left _ (by omega)
  rw [h3] at e1
  rw [h4] at e2
  have k1 : a ≤ g * a := Nat.le_mul_of_pos_left _ g0
  have k2 : b ≤ g * b := Nat.le_mul_of_pos_left _ g0
  refine ⟨?_, ?_⟩
  ·rw [e1, ha]
   split <;> simp <;> exact k1
  ·rw [hb]
   have : q.den = b := by exact_mod_cast e2
   omega
 by_cases h : 0 < d
 ·exact key n d h
 ·have := key (-n) (-d) (by omega)
  rw [show ((-n : Int) : Rat) / ((-d : Int) : Rat) = (n : Rat) / (d : Rat) by rw [Rat.intCast_neg, Rat.intCast_neg, Rat.div_def, Rat.div_def]; grind, Int.natAbs_neg, Int.natAbs_neg] at this
  exact this
theorem sz_i64 {n : Int} (h1 : -9223372036854775808 ≤ n) (h2 : n ≤ 9223372036854775807) : sz 10000 n.natAbs ≤ 5 :=
 sz_le_of_lt (by omega) 5 _ (by omega)
set_option maxRecDepth 10000 in
set_option maxHeartbeats 4000000 in
theorem Quick_ok (n d : Int) (h1 : -9223372036854775808 ≤ n) (h2 : n ≤ 9223372036854775807) (h3 : -9223372036854775808 ≤ d) (h4 : d ≤ 9223372036854775807) (hd : d ≠ 0) (w : World) :
  Calls Tryz.prog 60 #[.int .i64 n, .int .i64 d] w (RaPost w ((n : Rat) / (d : Rat))) := by
 have H1 := Lib.hid (fun W => Integer_ok n W h1 h2)
 have H2 := Lib.hid (fun W => Integer_ok d W h3 h4)
 have H3 := Lib.hid (fun x y W hx hy => Lowest_ok x y n d W hx hy (Nat.le_trans (sz_i64 h1 h2) (by omega)) (Nat.le_trans (sz_i64 h3 h4) (by omega)) hd)
 generalize (n : Rat) / (d : Rat) = q at *
 clear h1 h2 h3 h4 hd
 go_enter Tryz.func60, Tryz.ntmps60
 go_wp2_with fail
 obtain ⟨wq1, EW, hz, X1⟩ := al1 w #[.bool false, .slice none 0 0, .bool false, .slice none 0 0] 97
 rw [EW]
 have hk2 := Bt (Below.refl _ _) hz
 clear EW hz
 refine (H1.out _).mono ?_
 rintro e wc3 ⟨v, rfl, hb3, hv4⟩
 obtain ⟨bA, paA, lA, caA, rfl⟩ := hv4.agg
 replace X1 := Lib.hid (X1.out.later hb3)
 have hk5 := Bt hk2 hb3
 clear hk2
 have NA := Lib.hid hv4
 clear hb3 hv4
 go_wp2_with fail
 refine (H2.out _).mono ?_
 rintro e wc6 ⟨v, rfl, hb6, hv7⟩
 obtain ⟨bB, paB, lB, caB, rfl⟩ := hv7.agg
 replace X1 := Lib.hid (X1.out.later hb6)
 replace NA := Lib.hid (NA.out.later hb6)
 have hk8 := Bt hk5 hb6
 clear hk5
 have NB := Lib.hid hv7
 clear hb6 hv7
 go_wp2_with fail
 refine (H3.out _ _ _ NA.out NB.out).mono ?_
 rintro e wc9 ⟨_, rfl, hb9, bn, pn, ln, cn, bd, pd, ld, cd, rfl, hn, hd⟩
 replace X1 := Lib.hid (X1.out.later hb9)
 replace NA := Lib.hid (NA.out.later hb9)
 replace NB := Lib.hid (NB.out.later hb9)
 have hk11 := Bt hk8 hb9
 clear hk8
 have NX := Lib.hid hn
 have NY := Lib.hid hd
 clear hb9 hd hn
 have cX1 := X1.out.cell; have lX1 := X1.out.lt; have fX1 := X1.out.free
 have hres := X1.out
 have cres := hres.cell
 have fres := hres.free
 go_wp2_with fail
 refine ret_c rfl rfl boxA Tryz.underlying97 rfl (by kernel_rfl) ?_
 have hx := Pl.set4 NX.out hres (by decide) (.bool bn) (.slice pn ln cn) (.bool bd) (.slice pd ld cd)
 have hy := Pl.set4 NY.out hres (by decide) (.bool bn) (.slice pn ln cn) (.bool bd) (.slice pd ld cd)
 exact ⟨_, rfl, belA, _, _, _, _, _, _, _, _, rfl, hx, hy⟩
end Go.Proofs.verdigrisref02
namespace Go.Proofs.verdigrisref02
open Go Go.RowKit Go.SW Go.Num Go.Mem Go.Proofs Go.Dec Go.Proofs.verdigrisref01 Go.Fra
theorem short_q {n d : Int} (h1 : -999 ≤ n ∧ n ≤ 999) (h2 : 1 ≤ d ∧ d ≤ 60) : okq ((n : Rat) / (d : Rat)) = true := by
 obtain ⟨l1, l2⟩ := low_le (n := n) (d := d) (by omega)
 have h3 : 2000 < tenTo 600 := by
  unfold tenTo
  have := Nat.pow_le_pow_right (n := 10) (by omega) (show 4 ≤ 600 by omega)
  omega
 unfold okq okn
 rw [Bool.and_eq_true]
 exact ⟨decide_eq_true (by omega), decide_eq_true (by omega)⟩
set_option maxRecDepth 10000 in
set_option maxHeartbeats 4000000 in
theorem Short_sm (f1 f2 : Bool) (v1 v2 : Value) (z1 z2 : Int) (w0 : World) (h1 : Words w0 v1) (h2 : Words w0 v2) : ∃ q : Rat, (okq q = true ∧ q.num.natAbs ≤ 999 ∧ q.den ≤ 60) ∧ ∀ w, Below w0.heap.size w0 w →
  Calls Tryz.prog 20 #[.agg #[.bool f1, v1, .int .u16 z1, .bool f2, v2, .int .u16 z2]] w (fun e w' => e = .returned (Fr.of q).v ∧ Below w.heap.size w w') := by
 have W0 : ∀ z : Int, -1000000000 ≤ z ∧ z ≤ 1000000000 → IntKind.i64.wrap z = z := fun z h => by unfold IntKind.wrap; simp [IntKind.bits, IntKind.signed]; split <;> omega
 obtain ⟨n, hn, A1⟩ := Small_ok f1 v1 z1 w0 h1
 obtain ⟨m, hm, A2⟩ := Small_ok f2 v2 z2 w0 h2
 obtain ⟨a1, n1, c1, U1, rfl, -⟩ := h1
 obtain ⟨a2, n2, c2, U2, rfl, -⟩ := h2
 obtain ⟨t, Et⟩ : ∃ t, n.tmod 1000 = t := ⟨_, rfl⟩
 obtain ⟨r, Er⟩ : ∃ r, (if m < 0 then -m else m).tmod 60 = r := ⟨_, rfl⟩
 have e1 := Int.tmod_lt_of_pos n (show (0 : Int) < 1000 by omega)
 have e2 := Int.lt_tmod_of_pos n (show (0 : Int) < 1000 by omega)
 have e3 := Int.tmod_eq_emod_of_nonneg (b := 60) (show 0 ≤ (if m < 0 then -m else m) by split <;> omega)
 rw [Et] at e1 e2
 rw [Er] at e3
 have r0 : 0 ≤ r ∧ r ≤ 59 := by rw [e3]; omega
 have wt := W0 t (by omega)
 have wr' := W0 r (by omega)
 have wr1 := W0 (1 + r) (by omega)
 have wm := W0 (-m) (by omega)
 have hq := short_q (n := t) (d := 1 + r) (by omega) (by omega)
 have hbd := low_le (n := t) (d := 1 + r) (by omega)
 refine ⟨(t : Rat) / ((1 + r : Int) : Rat), ⟨hq, by omega, by omega⟩, fun w hW => ?_⟩
 clear hbd
 have H1 := Lib.hid (fun W (h : Below w.heap.size w W) => A1 W (Bt hW h))
 have H2 := Lib.hid (fun W (h : Below w.heap.size w W) => A2 W (Bt hW h))
 have H3 := Lib.hid (fun W => Quick_ok t (1 + r) (by omega) (by omega) (by omega) (by omega) (by omega) W)
 obtain ⟨l1, l2⟩ := low_le (n := t) (d := 1 + r) (by omega)
 have H4 := Lib.hid (fun x W hx => Out_ok x ((t : Rat) / ((1 + r : Int) : Rat)) W hx (Nat.le_trans (sz_mono (by omega) l1) (Nat.le_trans (sz_i64 (by omega) (by omega)) (by omega))) (Nat.le_trans (sz_mono (by omega) l2) (Nat.le_trans (sz_i64 (by omega) (by omega)) (by omega))))
 clear A1 A2 hW l1 l2 W0
 generalize (t : Rat) / ((1 + r : Int) : Rat) = q at *
 have E : wr q = (Fr.of q, 0) := by unfold wr; rw [if_pos hq]
 rw [E] at H4
 obtain ⟨⟨s1, s2⟩, EQ⟩ : ∃ y, Fr.of q = y := ⟨_, rfl⟩
 rw [EQ] at H4 ⊢
 replace H4 : Hid (∀ x W, Ra W x q → Calls Tryz.prog 57 #[x] W (fun e w' => e = .returned (.tuple #[.agg #[.string s1, .string s2], .int .i64 0]) ∧ Below W.heap.size W w')) := H4
 unfold Fr.v
 clear E EQ hq e1 e2 e3 hn hm
 by_cases hm0 : m < 0
 ·rw [if_pos hm0] at Er
  go_enter Tryz.func20, Tryz.ntmps20
  go_wp2_with fail
  obtain ⟨wq1, EW, hz, X1, X2⟩ := al2 w #[.bool f1, .slice a1 n1 c1, .int .u16 z1, .bool f2, .slice a2 n2 c2, .int .u16 z2] 46 #[.string ⟨#[]⟩, .string ⟨#[]⟩] 40
  rw [EW]
  have hk2 := Bt (Below.refl _ _) hz
  clear EW hz
  refine (H2.out _ hk2).mono ?_
  rintro e wc3 ⟨rfl, hb3⟩
  replace X1 := Lib.hid (X1.out.later hb3)
  replace X2 := Lib.hid (X2.out.later hb3)
  have hk5 := Bt hk2 hb3
  clear hk2
  clear hb3
  have cX1 := X1.out.cell; have lX1 := X1.out.lt; have fX1 := X1.out.free
  go_wp2_with fail
  clear cX1 lX1 fX1
  refine (H1.out _ hk5).mono ?_
  rintro e wc6 ⟨rfl, hb6⟩
  replace X1 := Lib.hid (X1.out.later hb6)
  replace X2 := Lib.hid (X2.out.later hb6)
  have hk8 := Bt hk5 hb6
  clear hk5
  clear hb6
  go_wp2_with fail
  refine (H3.out _).mono ?_
  rintro e wc9 ⟨vq, rfl, hb9, hq⟩
  replace X1 := Lib.hid (X1.out.later hb9)
  replace X2 := Lib.hid (X2.out.later hb9)
  have hk11 := Bt hk8 hb9
  clear hk8
  have NQ := Lib.hid hq
  clear hb9 hq
  go_wp2_with fail
  refine (H4.out _ _ NQ.out).mono ?_
  rintro e wc12 ⟨rfl, hb12⟩
  replace X1 := Lib.hid (X1.out.later hb12)
  replace X2 := Lib.hid (X2.out.later hb12)
  replace NQ := Lib.hid (NQ.out.later hb12)
  have hk14 := Bt hk11 hb12
  clear hk11
  clear hb12
  have cX2 := X2.out.cell; have lX2 := X2.out.lt; have fX2 := X2.out.free
  have hres := X2.out
  have cres := hres.cell
  have fres := hres.free
  go_wp2_with fail
  refine ret_c rfl rfl boxA Tryz.underlying40 rfl (by kernel_rfl) ?_
  exact ⟨rfl, belA⟩
 ·rw [if_neg hm0] at Er
  go_enter Tryz.func20, Tryz.ntmps20
  go_wp2_with fail
  obtain ⟨wq1, EW, hz, X1, X2⟩ := al2 w #[.bool f1, .slice a1 n1 c1, .int .u16 z1, .bool f2, .slice a2 n2 c2, .int .u16 z2] 46 #[.string ⟨#[]⟩, .string ⟨#[]⟩] 40
  rw [EW]
  have hk2 := Bt (Below.refl _ _) hz
  clear EW hz
  refine (H2.out _ hk2).mono ?_
  rintro e wc3 ⟨rfl, hb3⟩
  replace X1 := Lib.hid (X1.out.later hb3)
  replace X2 := Lib.hid (X2.out.later hb3)
  have hk5 := Bt hk2 hb3
  clear hk2
  clear hb3
  have cX1 := X1.out.cell; have lX1 := X1.out.lt; have fX1 := X1.out.free
  go_wp2_with fail
  clear cX1 lX1 fX1
  refine (H1.out _ hk5).mono ?_
  rintro e wc6 ⟨rfl, hb6⟩
  replace X1 := Lib.hid (X1.out.later hb6)
  replace X2 := Lib.hid (X2.out.later hb6)
  have hk8 := Bt hk5 hb6
  clear hk5
  clear hb6
  go_wp2_with fail
  refine (H3.out _).mono ?_
  rintro e wc9 ⟨vq, rfl, hb9, hq⟩
  replace X1 := Lib.hid (X1.out.later hb9)
  replace X2 := Lib.hid (X2.out.later hb9)
  have hk11 := Bt hk8 hb9
  clear hk8
  have NQ := Lib.hid hq
  clear hb9 hq
  go_wp2_with fail
  refine (H4.out _ _ NQ.out).mono ?_
  rintro e wc12 ⟨rfl, hb12⟩
  replace X1 := Lib.hid (X1.out.later hb12)
  replace X2 := Lib.hid (X2.out.later hb12)
  replace NQ := Lib.hid (NQ.out.later hb12)
  have hk14 := Bt hk11 hb12
  clear hk11
  clear hb12
  have cX2 := X2.out.cell; have lX2 := X2.out.lt; have fX2 := X2.out.free
  have hres := X2.out
  have cres := hres.cell
  have fres := hres.free
  go_wp2_with fail
  refine ret_c rfl rfl boxA Tryz.underlying40 rfl (by kernel_rfl) ?_
  exact ⟨rfl, belA⟩
end Go.Proofs.verdigrisref02
