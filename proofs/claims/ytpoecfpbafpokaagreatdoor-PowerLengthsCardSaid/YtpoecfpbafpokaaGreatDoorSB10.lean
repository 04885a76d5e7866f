/- Lemmas for the proof. No condition. -/
import Derived.Test.YtpoecfpbafpokaaGreatDoorSB01
import Derived.Test.YtpoecfpbafpokaaGreatDoorSB02
import Derived.Test.YtpoecfpbafpokaaGreatDoorSB03
import Derived.Test.YtpoecfpbafpokaaGreatDoorSB07
import Derived.Test.YtpoecfpbafpokaaGreatDoorSB09
import Derived.RegionTactic
import Derived.Deep.Cut
set_option linter.unusedVariables false
set_option linter.unusedSimpArgs false
set_option maxRecDepth 100000
set_option maxHeartbeats 16000000
namespace Go.Proofs.verdigrisref01
open Go Go.RowKit Go.SW Go.Num Go.Mem Go.Proofs
theorem sgd_div {a b : Int} (hb : 0 < b) (h : 0 ≤ a ∨ b ∣ a) : sgd (a.natAbs / b.natAbs) (decide (a < 0)) = a / b ∧ sgd (a.natAbs % b.natAbs) (decide (a < 0)) = a % b ∧ 0 ≤ a % b := by
  have hm := Int.emod_nonneg a (show b ≠ 0 by omega)
  rcases h with h | h
  · have h1 : ¬ a < 0 := by omega
    unfold sgd
    simp only [h1, decide_false, Bool.false_eq_true, if_false]
    obtain ⟨x, rfl⟩ := Int.eq_ofNat_of_zero_le h
    obtain ⟨y, rfl⟩ := Int.eq_ofNat_of_zero_le (Int.le_of_lt hb)
    simp only [Int.natAbs_natCast]
    exact ⟨by rw [Int.natCast_ediv], by rw [Int.natCast_emod], hm⟩
  · have e1 : a % b = 0 := Int.emod_eq_zero_of_dvd h
    have e2 : a.natAbs % b.natAbs = 0 := Nat.mod_eq_zero_of_dvd (Int.natAbs_dvd_natAbs.2 h)
    refine ⟨?_, by rw [e1, e2]; unfold sgd; simp, hm⟩
    obtain ⟨c, rfl⟩ := h
    have h2 := sgd_quot (z := b * c) (y := b) ⟨c, rfl⟩
    have h3 : ¬ b < 0 := by omega
    simpa [h3] using h2
def Parts2Post (w : World) (q r : Int) (e : Ending) (w' : World) : Prop := ∃ x y, e = .returned (.tuple #[x, y]) ∧ Below w.heap.size w w' ∧ Pl w' x q ∧ Pl w' y r
theorem Parts_ok (x y : Value) (a b : Int) (w : World) (hx : Pl w x a) (hy : Pl w y b) (ha : sz 10000 a.natAbs ≤ 274877906944) (hb : sz 10000 b.natAbs ≤ 274877906944) (hb0 : 0 < b) (hd : 0 ≤ a ∨ b ∣ a) :
    Calls Tryz.prog 149 #[x, y] w (Parts2Post w (a / b) (a % b)) := by
  obtain ⟨bA, paA, lA, caA, rfl⟩ := hx.agg
  obtain ⟨bB, paB, lB, caB, rfl⟩ := hy.agg
  obtain ⟨nA, eA⟩ := hx.nm
  obtain ⟨nB, eB⟩ := hy.nm
  have hbf : bB = false := by rw [eB]; simp; omega
  subst hbf
  obtain ⟨s1, s2, s3⟩ := sgd_div hb0 hd
  rw [← eA] at s1 s2
  have NAn := zh nA
  have NBn := zh nB
  have KA := zh ha
  have KB := zh hb
  have H0 : Hid (0 < b.natAbs) := zh zo
  have HS1 := zh s1
  have HS2 := zh s2
  have HS3 := zh s3
  clear hx hy ha hb hb0 hd nA nB eA eB s1 s2 s3
  go_enter Tryz.func149, Tryz.ntmps149
  go_wp2_with fail
  obtain ⟨wq1, EW, hz, X1, X2, X3, X4⟩ := al4 w #[.bool bA, .slice paA lA caA] 95 #[.bool false, .slice paB lB caB] 95 #[.bool false, .slice none 0 0] 95 #[.bool false, .slice none 0 0] 95
  rw [EW]
  replace NAn := zh (NAn.out.later hz)
  have hk2 := Bt (Below.refl _ _) hz
  clear EW hz
  refine (parts_ok _ _ _ _ _ NAn.out (NBn.out.later hk2) H0.out KA.out KB.out).mono ?_
  rintro e wc3 ⟨q, r, rfl, hb3, hq, hr⟩
  obtain ⟨paQ, lQ, caQ, rfl⟩ := hq.slice
  obtain ⟨paR, lR, caR, rfl⟩ := hr.slice
  replace NAn := zh (NAn.out.later hb3)
  replace X1 := X1.bl hb3
  replace X2 := X2.bl hb3
  replace X3 := X3.bl hb3
  replace X4 := X4.bl hb3
  have hk5 := Bt hk2 hb3
  clear hk2
  have NQ := zh hq
  have NR := zh hr
  clear hb3 hq hr
  have HL4 := zh X4.out.lt
  go_wp2_with fail
  obtain ⟨cX1, lX1, fX1⟩ := X1.clf
  obtain ⟨cX2, lX2, fX2⟩ := X2.clf
  refine wp_region_walk [(.pure, 0), (.read, 1), (.pure, 2), (.read, 3), (.pure, 4), (.pure, 5), (.pure, 7), (.read, 8), (.pure, 9), (.ext, 6), (.ext, 10), (.alloc #[.bool false, .slice none 0 0] 95, 11), (.alloc #[.bool false, .slice none 0 0] 95, 12), (.fin, 13), (.fin, 14)] zk zk zR zP ?_
  repeat (first | (refine walk_pure0 rfl rfl fun J h => ?_; go_simp; refine h _ ?_; clear h J) | (refine walk_load rfl rfl rfl rfl fun J h => ?_; go_simp; refine h _ ?_; clear h J; try go_simp))
  refine walk_ext rfl rfl (fun we6 hb6 J hJ => ?_); go_simp
  have hh6 : Below wc3.heap.size wc3 we6 := belA
  clear hb6
  refine (made_nm _ _ _ _ _ (NQ.out.later hh6) HS1.out).mono ?_
  rintro e wc7 ⟨v, rfl, hb7, hv8⟩
  obtain ⟨bU, paU, lU, caU, rfl⟩ := hv8.agg
  refine hJ _ _ hb7 ?_
  clear hJ J
  have hh7 := Bt hh6 hb7
  have NU := zh hv8
  clear hh6 hb7 hv8
  repeat (first | (refine walk_pure0 rfl rfl fun J h => ?_; go_simp; refine h _ ?_; clear h J) | (refine walk_load rfl rfl rfl rfl fun J h => ?_; go_simp; refine h _ ?_; clear h J; try go_simp))
  refine walk_ext rfl rfl (fun we9 hb9 J hJ => ?_); go_simp
  have hh9 : Below wc3.heap.size wc3 we9 := Bt hh7 belA
  replace NU := zh (NU.out.later (show Below wc7.heap.size wc7 we9 from belA))
  clear hb9 hh7
  refine (made_nm _ _ _ _ _ (NR.out.later hh9) HS2.out).mono ?_
  rintro e wc10 ⟨v, rfl, hb10, hv⟩
  obtain ⟨bV, paV, lV, caV, rfl⟩ := hv.agg
  have hbv : bV = false := hv.nm.2.trans (decide_eq_false (by have := HS3.out; omega))
  subst hbv
  refine hJ _ _ hb10 ?_
  clear hJ J
  have hh10 := Bt hh9 hb10
  replace NU := zh (NU.out.later hb10)
  have NV := zh hv
  clear hh9 hb10 hv
  repeat (first | (refine walk_pure0 rfl rfl fun J h => ?_; go_simp; refine h _ ?_; clear h J) | (refine walk_load rfl rfl rfl rfl fun J h => ?_; go_simp; refine h _ ?_; clear h J; try go_simp))
  refine walk_alloc rfl (fun bk12 wa12 hwa12 hNbk12 hltbk12 hAbk12 hxbk12 => ?_); go_simp; replace hxbk12 : Box _ _ _ _ := hxbk12; have hWbk12 : w.heap.size ≤ bk12 := (by first | omega | exact Nat.le_trans (Below.size (B := w.heap.size) belA) hNbk12)
  refine walk_alloc rfl (fun bk13 wa13 hwa13 hNbk13 hltbk13 hAbk13 hxbk13 => ?_); go_simp; replace hxbk13 : Box _ _ _ _ := hxbk13; have hWbk13 : w.heap.size ≤ bk13 := (by first | omega | exact Nat.le_trans (Below.size (B := w.heap.size) belA) hNbk13)
  replace hxbk12 := Box.later hxbk12 hwa13
  have hne : bk12 ≠ bk13 := fun h => hAbk13 (by simp [h])
  have hne2 : bk13 ≠ bk12 := fun h => hne h.symm
  refine walk_fin [_, _] rfl (fun wf14 hf14 => ?_)
  replace NU := zh (NU.out.later (show Below wc10.heap.size wc10 wf14 from belA))
  replace NV := zh (NV.out.later (show Below wc10.heap.size wc10 wf14 from belA))
  have hh14 : Below wc3.heap.size wc3 wf14 := Bt hh10 belA
  have hq0 := hxbk12.later hf14; have cq0 := hq0.cell; have fq0 := hq0.free
  have hq1 := hxbk13.later hf14; have cq1 := hq1.cell; have fq1 := hq1.free
  clear hxbk12 hxbk13 hf14 hh10
  clear cX1 lX1 fX1 cX2 lX2 fX2
  go_wp2_with fail
  obtain ⟨wq15, EW⟩ : ∃ y, ((((wf14.setCell ⟨bk12, 0, none⟩ (.bool bU)).setCell ⟨bk12, 1, none⟩ (.slice paU lU caU)).setCell ⟨bk13, 0, none⟩ (.bool false)).setCell ⟨bk13, 1, none⟩ (.slice paV lV caV)) = y := ⟨_, rfl⟩
  have hz : Below wc3.heap.size wc3 wq15 := by rw [← EW]; exact ((((hh14.setCell hNbk12 _).setCell hNbk12 _).setCell hNbk13 _).setCell hNbk13 _)
  have X5 : Hid (Box wq15 bk12 #[.bool bU, .slice paU lU caU] 95) := zh (by rw [← EW]; exact ((((hq0.set 0 _).set 1 _).setOther _ (by first | exact hne | exact hne2)).setOther _ (by first | exact hne | exact hne2)))
  have X6 : Hid (Box wq15 bk13 #[.bool false, .slice paV lV caV] 95) := zh (by rw [← EW]; exact ((((hq1.setOther _ (by first | exact hne | exact hne2)).setOther _ (by first | exact hne | exact hne2)).set 0 _).set 1 _))
  have t := ((((NU.out.setOther hq0 zd 0 (.bool bU)).setOther (hq0.set 0 _) zd 1 (.slice paU lU caU)).setOther ((hq1.setOther _ (by first | exact hne | exact hne2)).setOther _ (by first | exact hne | exact hne2)) zd 0 (.bool false)).setOther (((hq1.setOther _ (by first | exact hne | exact hne2)).setOther _ (by first | exact hne | exact hne2)).set 0 _) zd 1 (.slice paV lV caV))
  rw [EW] at t
  replace NU := zh t
  clear t
  have t := ((((NV.out.setOther hq0 zd 0 (.bool bU)).setOther (hq0.set 0 _) zd 1 (.slice paU lU caU)).setOther ((hq1.setOther _ (by first | exact hne | exact hne2)).setOther _ (by first | exact hne | exact hne2)) zd 0 (.bool false)).setOther (((hq1.setOther _ (by first | exact hne | exact hne2)).setOther _ (by first | exact hne | exact hne2)).set 0 _) zd 1 (.slice paV lV caV))
  rw [EW] at t
  replace NV := zh t
  clear t
  rw [EW]
  clear EW hq0 cq0 fq0 hq1 cq1 fq1 hh14
  clear NAn
  replace X1 := X1.bl hz
  replace X2 := X2.bl hz
  replace X3 := X3.bl hz
  replace X4 := X4.bl hz
  replace NQ := zh (NQ.out.later hz)
  replace NR := zh (NR.out.later hz)
  have hk16 := Bt hk5 hz
  clear hk5
  clear hz
  clear hwa12 hAbk12 hAbk13 hWbk12 hWbk13 hwa13
  have hlbk12 := hNbk12; have hlbk13 := hNbk13; clear hNbk12 hNbk13 hltbk12 hltbk13
  have c5 := X5.out.cell
  have c6 := X6.out.cell
  have c3 := X3.out.cell
  have c4 := X4.out.cell
  have f3 := X3.out.free
  have f4 := X4.out.free
  have hl4 := HL4.out
  have n1 : bk13 ≠ w.heap.size + 1 + 1 := by omega
  have n2 : bk13 ≠ w.heap.size + 1 + 1 + 1 := by omega
  have n3 : bk12 ≠ w.heap.size + 1 + 1 := by omega
  have n4 : bk12 ≠ w.heap.size + 1 + 1 + 1 := by omega
  have h3 := X3.out
  have h4 := X4.out
  clear X1 X2 X5 X6 NQ NR HS1 HS2 HS3 H0 KA KB NBn hne hne2 hl4 HL4 hlbk12 hlbk13
  go_region
  go_wp2_with fail
  have h4b := (h4.setOther (a := ⟨w.heap.size + 1 + 1, 0, none⟩) (.bool bU) zi).setOther (a := ⟨w.heap.size + 1 + 1, 1, none⟩) (.slice paU lU caU) zi
  have h3b := (((h3.set 0 (.bool bU)).set 1 (.slice paU lU caU)).setOther (a := ⟨w.heap.size + 1 + 1 + 1, 0, none⟩) (.bool false) zi).setOther (a := ⟨w.heap.size + 1 + 1 + 1, 1, none⟩) (.slice paV lV caV) zi
  have hU := (NU.out.set2 h3 zd 0 1 (.bool bU) (.slice paU lU caU)).set2 h4b zd 0 1 (.bool false) (.slice paV lV caV)
  have hV := (NV.out.set2 h3 zd 0 1 (.bool bU) (.slice paU lU caU)).set2 h4b zd 0 1 (.bool false) (.slice paV lV caV)
  refine ret_cc rfl rfl (Box.drew h3b) Tryz.underlying95 rfl zk rfl (Box.drew ((h4b.set 0 (.bool false)).set 1 (.slice paV lV caV))) Tryz.underlying95 rfl zk ?_
  exact ⟨_, _, rfl, belA, hU.later (Below.drew (Below.refl _ _)), hV.later (Below.drew (Below.refl _ _))⟩
end Go.Proofs.verdigrisref01
namespace Go.Proofs.verdigrisref01
open Go Go.RowKit Go.SW Go.Num Go.Mem Go.Proofs Go.Dec
theorem four_ok (d : Nat) (hd : d < 10000) (w : World) :
    Calls Tryz.prog 146 #[.int .i64 (d : Int)] w fun e w' => e = .returned (.string ⟨(pad 4 d).toArray⟩) ∧ Below w.heap.size w w' := by
  have hp : pad 4 d = [UInt8.ofNat (48 + d / 1000), UInt8.ofNat (48 + d / 100 % 10), UInt8.ofNat (48 + d / 10 % 10), UInt8.ofNat (48 + d % 10)] := by
    simp only [pad, List.nil_append, List.cons_append]
    rw [show d / 10 / 10 / 10 % 10 = d / 1000 by omega, show d / 10 / 10 % 10 = d / 100 % 10 by omega]
  have hb : ∀ x : Nat, x < 10 → ((UInt8.ofNat (48 + x)).toNat : Int) = 48 + (x : Int) := fun x hx => by
    rw [byte_digit hx]; omega
  have e1 := hb (d / 1000) zo
  have e2 := hb (d / 100 % 10) zo
  have e3 := hb (d / 10 % 10) zo
  have e4 := hb (d % 10) zo
  have hcv : (convert 208 9 (.slice (some ⟨w.heap.size, 0, none⟩) 4 4)).run Tryz.prog (w.alloc (.cells #[.int .u8 (48 + (d : Int) / 1000), .int .u8 (48 + (d : Int) / 100 % 10), .int .u8 (48 + (d : Int) / 10 % 10), .int .u8 (48 + (d : Int) % 10)] 5))
      = .ok (.string ⟨(pad 4 d).toArray⟩) (w.alloc (.cells #[.int .u8 (48 + (d : Int) / 1000), .int .u8 (48 + (d : Int) / 100 % 10), .int .u8 (48 + (d : Int) / 10 % 10), .int .u8 (48 + (d : Int) % 10)] 5)) := by
    have hx := Box.new w #[.int .u8 (48 + (d : Int) / 1000), .int .u8 (48 + (d : Int) / 100 % 10), .int .u8 (48 + (d : Int) / 10 % 10), .int .u8 (48 + (d : Int) % 10)] 5
    have hl := pad_length 4 d
    have := run_convert_bytes_back (P := Tryz.prog) (w.alloc (.cells #[.int .u8 (48 + (d : Int) / 1000), .int .u8 (48 + (d : Int) / 100 % 10), .int .u8 (48 + (d : Int) / 10 % 10), .int .u8 (48 + (d : Int) % 10)] 5)) 208 9 5 ⟨w.heap.size, 0, none⟩ 4 (pad 4 d) Tryz.underlying208 Tryz.underlying5 Tryz.underlying9 (fun j hj => by
      rw [Addr.add_lit, hx.cell, Nat.zero_add]
      rw [hl] at hj
      match j, hj with
      | 0, _ => simp only [hp, List.getElem_cons_zero, e1]; rfl
      | 1, _ => simp only [hp, List.getElem_cons_zero, List.getElem_cons_succ, e2]; rfl
      | 2, _ => simp only [hp, List.getElem_cons_zero, List.getElem_cons_succ, e3]; rfl
      | 3, _ => simp only [hp, List.getElem_cons_zero, List.getElem_cons_succ, e4]; rfl)
    rwa [hl] at this
  obtain ⟨B, EB⟩ : ∃ B : ByteArray, Hid ((⟨(pad 4 d).toArray⟩ : ByteArray) = B) := ⟨_, zh rfl⟩
  rw [EB.out] at hcv ⊢
  clear e1 e2 e3 e4 hb hp EB
  go_enter Tryz.func146, Tryz.ntmps146
  go_wp2
  go_ret
  exact ⟨rfl, belA⟩
def txt : List Nat → List UInt8
  | [] => []
  | d :: l => txt l ++ pad 4 d
theorem txt_drop {l : List Nat} {i : Nat} (h : i < l.length) : txt (l.drop i) = txt (l.drop (i + 1)) ++ pad 4 (l.getD i 0) := by
  rw [drop_getD h]
  rfl
theorem txt_dec : ∀ {l : List Nat}, Dig 10000 l → Top l → l ≠ [] → ∃ m, txt l = List.replicate m 48 ++ Lib.decDigits (val 10000 l)
  | [], _, _, h => absurd rfl h
  | d :: l, hd, ht, _ => by
    by_cases hl : l = []
    · subst hl
      refine ⟨4 - (Lib.decDigits d).length, ?_⟩
      have h1 := dec_fill 4 d zo (by have := hd.head; omega)
      show [] ++ pad 4 d = _
      rw [← h1]
      simp [val]
    · obtain ⟨m, hm⟩ := txt_dec hd.tail ht.tail hl
      refine ⟨m, ?_⟩
      have hp := val_pos_of_top (B := 10000) zo ht.tail hl
      show txt l ++ pad 4 d = _
      rw [hm, List.append_assoc, ← dec_pad 4 _ d hp (by have := hd.head; omega)]
      simp only [val]
      rw [show val 10000 l * 10 ^ 4 + d = d + 10000 * val 10000 l by omega]
theorem txt_len (l : List Nat) : (txt l).length = 4 * l.length := by
  induction l with
  | nil => rfl
  | cons d l ih => show (txt l ++ pad 4 d).length = _; rw [List.length_append, ih, pad_length, List.length_cons]; omega
theorem strip_dec {l : List Nat} {k : Nat} (hd : Dig 10000 l) (ht : Top l) (h : ∀ i, i < k → (txt l)[i]? = some 48) (hk : k < (txt l).length) (hne : (txt l)[k]? ≠ some 48) : (txt l).drop k = Lib.decDigits (val 10000 l) := by
  have hl : l ≠ [] := fun e => by subst e; cases hk
  have hp := val_pos_of_top (B := 10000) zo ht hl
  obtain ⟨m, hm⟩ := txt_dec hd ht hl
  have hkm : k = m := by
    rcases Nat.lt_trichotomy k m with h1 | h1 | h1
    · exfalso
      rw [hm, List.getElem?_append_left (by simpa using h1)] at hne
      simp [h1] at hne
    · exact h1
    · exfalso
      have h2 := h m h1
      rw [hm, List.getElem?_append_right zi] at h2
      simp only [List.length_replicate, Nat.sub_self] at h2
      have := dec_head (n := val 10000 l) (by rw [List.head?_eq_getElem?]; exact h2)
      omega
  subst hkm
  rw [hm, List.drop_append_of_le_length zi, List.drop_of_length_le zi, List.nil_append]
theorem strip_all {l : List Nat} (hd : Dig 10000 l) (ht : Top l) (h : ∀ i, i < (txt l).length → (txt l)[i]? = some 48) : val 10000 l = 0 := by
  by_cases hl : l = []
  · subst hl; rfl
  · exfalso
    have hp := val_pos_of_top (B := 10000) zo ht hl
    obtain ⟨m, hm⟩ := txt_dec hd ht hl
    have h2 := h m (by rw [hm, List.length_append, List.length_replicate]; have := dec_len_pos (val 10000 l); omega)
    rw [hm, List.getElem?_append_right zi] at h2
    simp only [List.length_replicate, Nat.sub_self] at h2
    have := dec_head (n := val 10000 l) (by rw [List.head?_eq_getElem?]; exact h2)
    omega
theorem ba_eq {a b : ByteArray} (h : a.data.toList = b.data.toList) : a = b := by
  cases a; cases b
  simp only at h
  rw [Array.toList_inj.1 h]
theorem itoa_abs (z : Int) : Lib.itoa z = if z < 0 then 45 :: Lib.decDigits z.natAbs else Lib.decDigits z.natAbs := by
  unfold Lib.itoa
  by_cases h : z < 0
  · rw [if_pos h, if_pos h]
  · rw [if_neg h, if_neg h, show z.toNat = z.natAbs by omega]
theorem extract_list (S : ByteArray) (k : Nat) : (S.extract k S.size).data.toList = S.data.toList.drop k := by
  have h : S.size = S.data.toList.length := rfl
  rw [ByteArray.data_extract, Array.toList_extract]
  unfold List.extract
  rw [List.take_of_length_le (by rw [List.length_drop, h]; exact Nat.le_refl _)]
theorem Text_ok (x : Value) (z : Int) (w : World) (hx : Pl w x z) (hs : sz 10000 z.natAbs ≤ 1073741824) :
    Calls Tryz.prog 104 #[x] w (fun e w' => e = .returned (.string ⟨(Lib.itoa z).toArray⟩) ∧ Below w.heap.size w w') := by
  obtain ⟨bA, paA, lA, caA, rfl⟩ := hx.agg
  obtain ⟨hn, hbz⟩ := hx.nm
  obtain ⟨l, El⟩ : ∃ l, digs 10000 z.natAbs = l := ⟨_, rfl⟩
  obtain ⟨pa', ca', e, k1, k2, k3⟩ := hn.read
  simp only [Value.slice.injEq] at e
  obtain ⟨rfl, rfl, rfl⟩ := e
  rw [El] at k3
  have hl : l.length = sz 10000 z.natAbs := by rw [← El]; rfl
  have hdl : Dig 10000 l := by rw [← El]; exact dig_digs zo _
  have htl : Top l := by rw [← El]; exact top_digs zo _
  have hvl : val 10000 l = z.natAbs := by rw [← El]; exact val_digs zo _
  obtain ⟨L, EL⟩ : ∃ L, sz 10000 z.natAbs = L := ⟨_, rfl⟩
  rw [EL] at hl hs k1 k3 ⊢
  have h0 : Below w.heap.size w (w.alloc (.cells #[.bool bA, .slice paA L caA] 95)) := belA
  have hbx := Box.new w #[.bool bA, .slice paA L caA] 95
  obtain ⟨W, EW⟩ : ∃ y, w.alloc (.cells #[.bool bA, .slice paA L caA] 95) = y := ⟨_, rfl⟩
  rw [EW] at h0 hbx
  have k4 : ∀ k, k < L → ∃ b off, paA = some ⟨b, off, none⟩ ∧ b < W.heap.size ∧ W.cell? ⟨b, off + k, none⟩ = some (.int .i64 (l.getD k 0 : Nat)) := fun k hk => by
    obtain ⟨b, off, e, h1, h2⟩ := k3 k hk
    exact ⟨b, off, e, Nat.lt_of_lt_of_le h1 h0.size, (h0.cell (by exact h1)).trans h2⟩
  have K4 := zh k4
  have HX := zh hbx
  have HL := zh hl
  have HDL := zh hdl
  have HTL := zh htl
  have HVL := zh hvl
  have HBZ := zh hbz
  have c0 := hbx.cell
  clear k3 k4 hbx hl hdl htl hvl hbz hn hx EL El
  go_enter Tryz.func104, Tryz.ntmps104
  go_wp2_with fail
  clear EW c0
  go_loopw [3, 4] (fun sv iv wr => ∃ (q : Int) (S : ByteArray), -1 ≤ q ∧ q < L ∧ iv = .int .i64 q ∧ sv = .string S ∧ Hid (S.data.toList = txt (l.drop (q + 1).toNat)) ∧ Hid (Below W.heap.size W wr)) (fun _ iv _ => (intOf iv + 1).toNat)
  case atStart =>
    have e : ((L : Int) - 1 + 1).toNat = l.length := by have := HL.out; omega
    exact ⟨(L : Int) - 1, ⟨#[]⟩, by omega, by omega, rfl, rfl, zh (by rw [e, List.drop_length]; rfl), zh (Below.refl _ _)⟩
  case round =>
    obtain ⟨q, S, hq1, hq2, rfl, rfl, HS, HB⟩ := hrel
    have hbx := HX.out.later HB.out
    have c0 := hbx.cell
    by_cases hq : q < 0
    · have hq0 : q = -1 := by omega
      subst hq0
      have hS : S.data.toList = txt l := by have := HS.out; simpa using this
      have HS2 := zh hS
      clear hS HS
      have hsz : S.size = 4 * L := by
        have h1 : S.size = S.data.toList.length := rfl
        rw [h1, HS2.out, txt_len, HL.out]
      go_wp2_with fail
      go_loop [5] (fun kv => ∃ k : Nat, k ≤ S.size ∧ kv = .int .i64 k ∧ Hid (∀ i, i < k → S.data.toList[i]? = some 48)) (fun kv => S.size - (intOf kv).toNat)
      case atStart => exact ⟨0, Nat.zero_le _, rfl, zh fun i hi => by cases hi⟩
      case round =>
        obtain ⟨k, hk, rfl, HK⟩ := hrel
        by_cases hks : k < S.size
        · have hg : (txt l)[k]? = some S[k] := by
            rw [← HS2.out]
            exact List.getElem?_eq_getElem (by exact hks)
          by_cases h48 : S[k] = 48
          · have e : ((S[k].toNat : Int) == 48) = true := by rw [h48]; rfl
            have HK1 : Hid (∀ i, i < k + 1 → S.data.toList[i]? = some 48) := zh fun i hi => by
              by_cases hik : i < k
              · exact HK.out i hik
              · obtain rfl : i = k := by omega
                rw [HS2.out, hg, h48]
            clear hg h48
            go_wp2_with fail
            go_round
            case rel => exact ⟨k + 1, by omega, by go_num, HK1⟩
            case measure => exact zM
          · have e : ((S[k].toNat : Int) == 48) = false := by
              rw [beq_eq_false_iff_ne]
              intro h
              have hk48 : S[k].toNat = 48 := by omega
              exact h48 (UInt8.toNat_inj.1 (by rw [hk48]; rfl))
            have hdrop := strip_dec HDL.out HTL.out (fun i hi => by rw [← HS2.out]; exact HK.out i hi) (by rw [← HS2.out]; exact hks) (by rw [hg]; intro h; exact h48 (Option.some.inj h))
            have hT : (S.extract k (4 * L)).data.toList = Lib.decDigits z.natAbs := by
              rw [← hsz, extract_list, HS2.out, hdrop, HVL.out]
            have hE : (S.extract k (4 * L)).toList.isEmpty = false := by
              rw [ByteArray.toList_eq, hT]
              have := dec_len_pos z.natAbs
              cases h : Lib.decDigits z.natAbs with
              | nil => rw [h] at this; cases this
              | cons a b => rfl
            have HT := zh hT
            clear hdrop hT hg h48 HK
            cases bA
            · have hz : ¬ z < 0 := by have := HBZ.out; intro h; rw [decide_eq_true h] at this; cases this
              have eS : S.extract k (4 * L) = ⟨(Lib.itoa z).toArray⟩ := ba_eq (by rw [HT.out, itoa_abs, if_neg hz])
              have ES := zh eS
              clear eS hz
              go_wp2_with fail
              go_ret
              exact ⟨congrArg (fun s => Ending.returned (.string s)) ES.out, Bt h0 HB.out⟩
            · have hz : z < 0 := of_decide_eq_true HBZ.out.symm
              have eS : (⟨#[45]⟩ : ByteArray) ++ S.extract k (4 * L) = ⟨(Lib.itoa z).toArray⟩ := ba_eq (by
                rw [itoa_abs, if_pos hz, ByteArray.data_append, Array.toList_append, HT.out]
                rfl)
              have ES := zh eS
              have hsm : ¬ 9223372036854775807 < 1 + (S.extract k (4 * L)).size := by
                have h1 : (S.extract k (4 * L)).size = (S.extract k (4 * L)).data.toList.length := rfl
                have h2 := HT.out
                rw [← hsz, extract_list] at h2
                have h3 : (S.extract k (4 * L)).data.toList.length ≤ S.data.toList.length := by
                  rw [← hsz, extract_list, List.length_drop]
                  omega
                have h4 : S.data.toList.length = S.size := rfl
                omega
              clear eS hz
              go_wp2_with fail
              go_ret
              exact ⟨congrArg (fun s => Ending.returned (.string s)) ES.out, Bt h0 HB.out⟩
        · have hke : k = S.size := by omega
          subst hke
          have hz0 : z.natAbs = 0 := by
            rw [← HVL.out]
            exact strip_all HDL.out HTL.out fun i hi => by
              rw [← HS2.out] at hi ⊢
              exact HK.out i hi
          have hz : z = 0 := by omega
          have EZ : Hid ((⟨#[48]⟩ : ByteArray) = ⟨(Lib.itoa z).toArray⟩) := zh (by rw [hz]; exact ba_eq (by rw [itoa_abs]; simp [dec_small]))
          clear hz hz0 HK
          go_wp2_with fail
          go_ret
          exact ⟨congrArg (fun s => Ending.returned (.string s)) EZ.out, Bt h0 HB.out⟩
    · obtain ⟨j, rfl⟩ := Int.eq_ofNat_of_zero_le (by omega : 0 ≤ q)
      have ej : ((j : Int) + 1).toNat = j + 1 := by omega
      rw [ej] at HS
      obtain ⟨b, off, rfl, hb1, hc1⟩ := K4.out j zo
      have hcj : wr.cell? ⟨b, off + j, none⟩ = some (.int .i64 (l.getD j 0 : Nat)) := (HB.out.cell (by exact hb1)).trans hc1
      have hdj := HDL.out.getD zo j
      have HST : Hid (txt (l.drop j) = S.data.toList ++ pad 4 (l.getD j 0)) := zh (by rw [HS.out]; exact txt_drop (by rw [HL.out]; omega))
      have HSL : Hid (S.data.toList.length = 4 * (L - (j + 1))) := zh (by rw [HS.out, txt_len, List.length_drop, HL.out])
      clear HS hc1
      generalize l.getD j 0 = d at *
      have HF := zh (four_ok d hdj)
      have hsum : ¬ 9223372036854775807 < S.size + (pad 4 d).length := by
        have h1 : S.size = S.data.toList.length := rfl
        rw [pad_length, h1, HSL.out]
        omega
      go_wp2_with fail
      refine (HF.out _).mono ?_
      rintro e w1 ⟨rfl, hb⟩
      have HB1 := zh (Bt HB.out hb)
      clear hb hbx c0 hcj
      go_wp2_with fail
      go_roundw
      case rel =>
        have e1 : ((j : Int) - 1 + 1).toNat = j := by omega
        exact ⟨(j : Int) - 1, S ++ ⟨(pad 4 d).toArray⟩, by omega, by omega, rfl, rfl, zh (by rw [e1, HST.out]; simp), HB1⟩
      case measure => simp [intOf]
theorem dec_len_sz (n : Nat) : (Lib.decDigits n).length ≤ 4 * sz 10000 n + 1 := by
  refine dec_len_le _ _ zo ?_
  have h1 := lt_pow_sz (B := 10000) zo n
  have h2 : (10 : Nat) ^ (4 * sz 10000 n) = 10000 ^ sz 10000 n := by rw [Nat.pow_mul]
  rw [Nat.pow_succ, h2]
  omega
def outV (z : Int) : Value := if Fra.okn z.natAbs then .tuple #[itxt z, .int .i64 0] else .tuple #[.string ⟨#[]⟩, .int .i64 6]
theorem itoa_len (z : Int) : (Lib.itoa z).length = (Lib.decDigits z.natAbs).length + (if z < 0 then 1 else 0) := by
  rw [itoa_abs]
  by_cases h : z < 0
  · rw [if_pos h, if_pos h]; rfl
  · rw [if_neg h, if_neg h]; rfl
theorem Out_ok (x : Value) (z : Int) (w : World) (hx : Pl w x z) (hs : sz 10000 z.natAbs ≤ 1073741824) :
    Calls Tryz.prog 106 #[x] w (fun e w' => e = .returned (outV z) ∧ Below w.heap.size w w') := by
  obtain ⟨bA, paA, lA, caA, rfl⟩ := hx.agg
  obtain ⟨hn, hbz⟩ := hx.nm
  have NA := zh hx
  have hlen := itoa_len z
  have hok := Fra.okn_len (n := z.natAbs)
  obtain ⟨S, ES⟩ : ∃ S : ByteArray, Hid (S = ⟨(Lib.itoa z).toArray⟩) := ⟨_, zh rfl⟩
  have hsz : S.size = (Lib.itoa z).length := by rw [ES.out]; simp [ByteArray.size]
  have hsb : (Lib.decDigits z.natAbs).length ≤ 4294967297 := by
    have := dec_len_sz z.natAbs
    omega
  have HT := zh (fun W (hb : Below w.heap.size w W) => Text_ok _ z W (hx.later hb) hs)
  rw [← ES.out] at HT
  have hv : outV z = if (Lib.decDigits z.natAbs).length ≤ 600 then .tuple #[.string S, .int .i64 0] else .tuple #[.string ⟨#[]⟩, .int .i64 6] := by
    unfold outV
    rw [ES.out]
    by_cases h : (Lib.decDigits z.natAbs).length ≤ 600
    · rw [if_pos h, if_pos (hok.2 h)]; rfl
    · rw [if_neg h, if_neg (fun h' => h (hok.1 h'))]
  rw [hv]
  obtain ⟨n, En⟩ : ∃ n, (Lib.decDigits z.natAbs).length = n := ⟨_, rfl⟩
  rw [En] at hlen hsb ⊢
  rw [hlen] at hsz
  have h0 : Below w.heap.size w (w.alloc (.cells #[.bool bA, .slice paA lA caA] 95)) := belA
  have hbx := Box.new w #[.bool bA, .slice paA lA caA] 95
  have HBX := zh hbx
  have HH0 := zh h0
  by_cases hz : z < 0
  · have hbt : bA = true := by rw [hbz, decide_eq_true hz]
    subst hbt
    rw [if_pos hz] at hsz
    clear hz hlen hok hn hbz hv En hs hx NA h0 hbx
    by_cases hbig : n ≤ 600
    · rw [if_pos hbig]
      have e1 : ¬ (600 : Int) < (n : Int) + 1 - 1 := by omega
      go_enter Tryz.func106, Tryz.ntmps106
      go_wp2_with fail
      refine (HT.out _ HH0.out).mono ?_
      rintro e w1 ⟨rfl, hb⟩
      have c0 := (HBX.out.later hb).cell
      go_wp2_with fail
      go_ret2
      exact ⟨rfl, Bt HH0.out hb⟩
    · rw [if_neg hbig]
      have e1 : (600 : Int) < (n : Int) + 1 - 1 := by omega
      go_enter Tryz.func106, Tryz.ntmps106
      go_wp2_with fail
      refine (HT.out _ HH0.out).mono ?_
      rintro e w1 ⟨rfl, hb⟩
      have c0 := (HBX.out.later hb).cell
      go_wp2_with fail
      go_ret2
      exact ⟨rfl, Bt HH0.out hb⟩
  · have hbt : bA = false := by rw [hbz, decide_eq_false hz]
    subst hbt
    rw [if_neg hz, Nat.add_zero] at hsz
    clear hz hlen hok hn hbz hv En hs hx NA h0 hbx
    by_cases hbig : n ≤ 600
    · rw [if_pos hbig]
      have e1 : ¬ (600 : Int) < (n : Int) := by omega
      go_enter Tryz.func106, Tryz.ntmps106
      go_wp2_with fail
      refine (HT.out _ HH0.out).mono ?_
      rintro e w1 ⟨rfl, hb⟩
      have c0 := (HBX.out.later hb).cell
      go_wp2_with fail
      go_ret2
      exact ⟨rfl, Bt HH0.out hb⟩
    · rw [if_neg hbig]
      have e1 : (600 : Int) < (n : Int) := by omega
      go_enter Tryz.func106, Tryz.ntmps106
      go_wp2_with fail
      refine (HT.out _ HH0.out).mono ?_
      rintro e w1 ⟨rfl, hb⟩
      have c0 := (HBX.out.later hb).cell
      go_wp2_with fail
      go_ret2
      exact ⟨rfl, Bt HH0.out hb⟩
theorem ok_len {d : List UInt8} {neg : Bool} (h : d.length < 1 ∨ 600 < d.length) : okDigs d neg = false := by
  unfold okDigs
  rcases h with h | h
  · have : d = [] := List.length_eq_zero_iff.1 zo
    subst this; rfl
  · have : decide (d.length ≤ 600) = false := by simp; omega
    simp [this]
theorem ok_bad {d : List UInt8} {neg : Bool} {b : UInt8} (h : b ∈ d) (hb : b.toNat < 48 ∨ 57 < b.toNat) : okDigs d neg = false := by
  cases hk : okDigs d neg with
  | false => rfl
  | true => have := okDigs_digS hk b h; omega
theorem ok_all {d : List UInt8} {neg : Bool} (h1 : 1 ≤ d.length) (h2 : d.length ≤ 600) (h : ∀ b ∈ d, 48 ≤ b.toNat ∧ b.toNat ≤ 57) : okDigs d neg = !(d.head? == some 48 && (neg || decide (1 < d.length))) := by
  unfold okDigs
  have e1 : decide (d ≠ []) = true := by simp; intro h; subst h; simp at h1
  have e2 : d.all (fun b => decide (48 ≤ b.toNat) && decide (b.toNat ≤ 57)) = true := by
    rw [List.all_eq_true]
    intro b hb
    have := h b hb
    simp [this.1, this.2]
  rw [e1, e2, decide_eq_true h2]
  simp
theorem whole_some (bs : List UInt8) : (whole bs).isSome = okDigs (cut bs).1 (cut bs).2 := by
  unfold whole
  cases okDigs (cut bs).1 (cut bs).2 <;> rfl
theorem get_drop {s : ByteArray} {i f : Nat} (hf : f ≤ i) (hi : i < s.size) : s[i] ∈ s.data.toList.drop f := by
  have h : s.data.toList[i]? = some s[i] := List.getElem?_eq_getElem (by exact hi)
  rw [List.mem_iff_getElem?]
  exact ⟨i - f, by rw [List.getElem?_drop, show f + (i - f) = i by omega]; exact h⟩
theorem Right_ok (s : ByteArray) (w : World) (hs : s.size ≤ 4611686018427387904) :
    Calls Tryz.prog 102 #[.string s] w (fun e w' => e = .returned (.bool (whole s.data.toList).isSome) ∧ w = w') := by
  rw [whole_some]
  have hsz : s.data.toList.length = s.size := rfl
  by_cases h0 : s.size = 0
  · have e : s.data.toList = [] := List.length_eq_zero_iff.1 (by rw [hsz, h0])
    rw [e, ok_len (.inl (by unfold Dec.cut; simp))]
    have hs0 : (s.size : Int) = 0 := by omega
    clear hs hsz e
    go_enter Tryz.func102, Tryz.ntmps102
    go_wp2
    go_ret
    exact ⟨rfl, rfl⟩
  · have hs0 : 0 < s.size := by omega
    have hd0 : s.data.toList[0]? = some s[0] := List.getElem?_eq_getElem (by exact hs0)
    have hhd : s.data.toList.head? = some s[0] := by rw [List.head?_eq_getElem?]; exact hd0
    obtain ⟨d, Ed⟩ : ∃ d, (Dec.cut s.data.toList).1 = d := ⟨_, rfl⟩
    obtain ⟨ng, En⟩ : ∃ ng, (Dec.cut s.data.toList).2 = ng := ⟨_, rfl⟩
    rw [Ed, En]
    by_cases h45 : s[0] = 45
    · have hC : d = s.data.toList.drop 1 ∧ ng = true := by
        unfold Dec.cut at Ed En
        rw [if_pos (by rw [hhd, h45])] at Ed En
        exact ⟨by rw [← Ed, List.drop_one], En.symm⟩
      obtain ⟨hd, hng⟩ := hC
      subst hng
      have hq : ((s[0].toNat : Int) == 45) = true := by
        rw [h45]; rfl
      have hdl : d.length = s.size - 1 := by rw [hd, List.length_drop, hsz]
      have HD := zh hd
      clear hd Ed En hhd hd0 h45
      by_cases hbad : s.size - 1 < 1 ∨ 600 < s.size - 1
      · rw [ok_len (by rw [hdl]; exact hbad)]
        have hb1 : (s.size : Int) - 1 < 1 ∨ (600 : Int) < (s.size : Int) - 1 := by omega
        clear hsz hdl
        rcases hb1 with hb1 | hb1
        · go_enter Tryz.func102, Tryz.ntmps102
          go_wp2
          all_goals (go_ret; exact ⟨rfl, rfl⟩)
        · have hb2 : ¬ (s.size : Int) - 1 < 1 := by omega
          go_enter Tryz.func102, Tryz.ntmps102
          go_wp2
          go_ret
          exact ⟨rfl, rfl⟩
      · have hb1 : ¬ (s.size : Int) - 1 < 1 := by omega
        have hb2 : ¬ (600 : Int) < (s.size : Int) - 1 := by omega
        have HDL := zh hdl
        obtain ⟨R, ER⟩ : ∃ R, Hid (okDigs d true = R) := ⟨_, zh rfl⟩
        rw [ER.out]
        clear hsz hdl hbad
        go_enter Tryz.func102, Tryz.ntmps102
        go_wp2
        go_loop [5] (fun iv => ∃ i : Nat, 1 ≤ i ∧ i ≤ s.size ∧ iv = .int .i64 i ∧ Hid (∀ j (h : j < s.size), 1 ≤ j → j < i → 48 ≤ s[j].toNat ∧ s[j].toNat ≤ 57)) (fun iv => s.size - (intOf iv).toNat)
        case atStart => exact ⟨1, Nat.le_refl _, by omega, rfl, zh fun j h h1 h2 => absurd h2 zo⟩
        case round =>
          obtain ⟨i, hi1, hi2, rfl, HK⟩ := hrel
          by_cases his : i < s.size
          · by_cases hlo : s[i].toNat < 48
            · have q1 : (s[i].toNat : Int) < 48 := by omega
              have HR : Hid (R = false) := zh (by rw [← ER.out]; exact ok_bad (by rw [HD.out]; exact get_drop hi1 his) (.inl hlo))
              clear hlo
              go_wp2
              go_ret
              exact ⟨by rw [HR.out]; rfl, rfl⟩
            · by_cases hhi : 57 < s[i].toNat
              · have q1 : ¬ (s[i].toNat : Int) < 48 := by omega
                have q2 : (57 : Int) < (s[i].toNat : Int) := by omega
                have HR : Hid (R = false) := zh (by rw [← ER.out]; exact ok_bad (by rw [HD.out]; exact get_drop hi1 his) (.inr hhi))
                clear hlo hhi
                go_wp2
                go_ret
                exact ⟨by rw [HR.out]; rfl, rfl⟩
              · have q1 : ¬ (s[i].toNat : Int) < 48 := by omega
                have q2 : ¬ (57 : Int) < (s[i].toNat : Int) := by omega
                have HK2 : Hid (∀ j (h : j < s.size), 1 ≤ j → j < i + 1 → 48 ≤ s[j].toNat ∧ s[j].toNat ≤ 57) := zh fun j h h1 h2 => by
                  by_cases hji : j < i
                  · exact HK.out j h h1 hji
                  · obtain rfl : j = i := by omega
                    omega
                clear hlo hhi
                go_wp2
                go_round
                case rel => exact ⟨i + 1, by omega, by omega, by go_num, HK2⟩
                case measure => exact zM
          · have hie : i = s.size := by omega
            subst hie
            have hF : 1 < s.size := by omega
            have hall : okDigs d true = !(d.head? == some 48 && (true || decide (1 < d.length))) := ok_all (by rw [HDL.out]; omega) (by rw [HDL.out]; omega) fun b hb => by
              rw [HD.out] at hb
              obtain ⟨j, hj, rfl⟩ := List.getElem_of_mem hb
              rw [List.length_drop] at hj
              have hj2 : j + 1 < s.size := by
                have : s.data.toList.length = s.size := rfl
                omega
              have := HK.out (j + 1) hj2 zo zo
              rw [List.getElem_drop]
              have e : s.data.toList[1 + j]'(by have : s.data.toList.length = s.size := rfl; omega) = s[j + 1] := by
                simp only [Nat.add_comm 1 j]
                rfl
              rw [e]
              exact this
            have hh : d.head? = some s[1] := by
              rw [HD.out, List.head?_eq_getElem?, List.getElem?_drop]
              exact List.getElem?_eq_getElem (by exact hF)
            rw [hh, HDL.out, ER.out] at hall
            clear hh HK
            by_cases h48 : s[1] = 48
            · have q3 : ((s[1].toNat : Int) == 48) = true := by rw [h48]; rfl
              have q4 : ((s[1].toNat : Int) != 48) = false := by rw [h48]; rfl
              have q5 : ((s.size : Int) == 1) = false := by simp; omega
              have HR : Hid (R = false) := zh (by rw [hall, h48]; rfl)
              clear h48 hall
              go_wp2
              go_ret
              exact ⟨by rw [HR.out]; rfl, rfl⟩
            · have q3 : ((s[1].toNat : Int) == 48) = false := by
                rw [beq_eq_false_iff_ne]
                intro h
                exact h48 (UInt8.toNat_inj.1 (by
                  have : s[1].toNat = 48 := by omega
                  rw [this]; rfl))
              have q4 : ((s[1].toNat : Int) != 48) = true := by rw [bne, q3]; rfl
              have q5 : (some s[1] == some (48 : UInt8)) = false := by
                rw [beq_eq_false_iff_ne]
                intro h
                exact h48 (Option.some.inj h)
              have HR : Hid (R = true) := zh (by rw [hall, q5]; rfl)
              clear h48 q5 hall
              go_wp2
              go_ret
              exact ⟨by rw [HR.out]; rfl, rfl⟩
    · have hC : d = s.data.toList.drop 0 ∧ ng = false := by
        unfold Dec.cut at Ed En
        rw [if_neg (by rw [hhd]; intro h; exact h45 (Option.some.inj h))] at Ed En
        exact ⟨by rw [← Ed]; rfl, En.symm⟩
      obtain ⟨hd, hng⟩ := hC
      subst hng
      have hq : ((s[0].toNat : Int) == 45) = false := by
        rw [beq_eq_false_iff_ne]
        intro h
        exact h45 (UInt8.toNat_inj.1 (by
          have : s[0].toNat = 45 := by omega
          rw [this]; rfl))
      have hdl : d.length = s.size - 0 := by rw [hd, List.length_drop, hsz]
      have HD := zh hd
      clear hd Ed En hhd hd0 h45
      by_cases hbad : s.size - 0 < 1 ∨ 600 < s.size - 0
      · rw [ok_len (by rw [hdl]; exact hbad)]
        have hb1 : (s.size : Int) - 0 < 1 ∨ (600 : Int) < (s.size : Int) - 0 := by omega
        clear hsz hdl
        rcases hb1 with hb1 | hb1
        · go_enter Tryz.func102, Tryz.ntmps102
          go_wp2
          all_goals (go_ret; exact ⟨rfl, rfl⟩)
        · have hb2 : ¬ (s.size : Int) - 0 < 1 := by omega
          go_enter Tryz.func102, Tryz.ntmps102
          go_wp2
          go_ret
          exact ⟨rfl, rfl⟩
      · have hb1 : ¬ (s.size : Int) - 0 < 1 := by omega
        have hb2 : ¬ (600 : Int) < (s.size : Int) - 0 := by omega
        have HDL := zh hdl
        obtain ⟨R, ER⟩ : ∃ R, Hid (okDigs d false = R) := ⟨_, zh rfl⟩
        rw [ER.out]
        clear hsz hdl hbad
        go_enter Tryz.func102, Tryz.ntmps102
        go_wp2
        go_loop [5] (fun iv => ∃ i : Nat, 0 ≤ i ∧ i ≤ s.size ∧ iv = .int .i64 i ∧ Hid (∀ j (h : j < s.size), 0 ≤ j → j < i → 48 ≤ s[j].toNat ∧ s[j].toNat ≤ 57)) (fun iv => s.size - (intOf iv).toNat)
        case atStart => exact ⟨0, Nat.le_refl _, by omega, rfl, zh fun j h h1 h2 => absurd h2 zo⟩
        case round =>
          obtain ⟨i, hi1, hi2, rfl, HK⟩ := hrel
          by_cases his : i < s.size
          · by_cases hlo : s[i].toNat < 48
            · have q1 : (s[i].toNat : Int) < 48 := by omega
              have HR : Hid (R = false) := zh (by rw [← ER.out]; exact ok_bad (by rw [HD.out]; exact get_drop hi1 his) (.inl hlo))
              clear hlo
              go_wp2
              go_ret
              exact ⟨by rw [HR.out]; rfl, rfl⟩
            · by_cases hhi : 57 < s[i].toNat
              · have q1 : ¬ (s[i].toNat : Int) < 48 := by omega
                have q2 : (57 : Int) < (s[i].toNat : Int) := by omega
                have HR : Hid (R = false) := zh (by rw [← ER.out]; exact ok_bad (by rw [HD.out]; exact get_drop hi1 his) (.inr hhi))
                clear hlo hhi
                go_wp2
                go_ret
                exact ⟨by rw [HR.out]; rfl, rfl⟩
              · have q1 : ¬ (s[i].toNat : Int) < 48 := by omega
                have q2 : ¬ (57 : Int) < (s[i].toNat : Int) := by omega
                have HK2 : Hid (∀ j (h : j < s.size), 0 ≤ j → j < i + 1 → 48 ≤ s[j].toNat ∧ s[j].toNat ≤ 57) := zh fun j h h1 h2 => by
                  by_cases hji : j < i
                  · exact HK.out j h h1 hji
                  · obtain rfl : j = i := by omega
                    omega
                clear hlo hhi
                go_wp2
                go_round
                case rel => exact ⟨i + 1, by omega, by omega, by go_num, HK2⟩
                case measure => exact zM
          · have hie : i = s.size := by omega
            subst hie
            have hF : 0 < s.size := by omega
            have hall : okDigs d false = !(d.head? == some 48 && (false || decide (1 < d.length))) := ok_all (by rw [HDL.out]; omega) (by rw [HDL.out]; omega) fun b hb => by
              rw [HD.out] at hb
              obtain ⟨j, hj, rfl⟩ := List.getElem_of_mem hb
              rw [List.length_drop] at hj
              have hj2 : j + 0 < s.size := by
                have : s.data.toList.length = s.size := rfl
                omega
              have := HK.out (j + 0) hj2 zo zo
              rw [List.getElem_drop]
              have e : s.data.toList[0 + j]'(by have : s.data.toList.length = s.size := rfl; omega) = s[j + 0] := by
                simp only [Nat.add_comm 0 j]
                rfl
              rw [e]
              exact this
            have hh : d.head? = some s[0] := by
              rw [HD.out, List.head?_eq_getElem?, List.getElem?_drop]
              exact List.getElem?_eq_getElem (by exact hF)
            rw [hh, HDL.out, ER.out] at hall
            clear hh HK
            by_cases h48 : s[0] = 48
            · have q3 : ((s[0].toNat : Int) == 48) = true := by rw [h48]; rfl
              have q4 : ((s[0].toNat : Int) != 48) = false := by rw [h48]; rfl
              by_cases h1 : s.size = 1
              · have q5 : ((s.size : Int) == 1) = true := by simp; omega
                have HR : Hid (R = true) := zh (by rw [hall, h48, h1]; rfl)
                clear h48 hall
                go_wp2
                go_ret
                exact ⟨by rw [HR.out]; rfl, rfl⟩
              · have q5 : ((s.size : Int) == 1) = false := by simp; omega
                have q6 : decide (1 < s.size - 0) = true := by simp; omega
                have HR : Hid (R = false) := zh (by rw [hall, h48, q6]; rfl)
                clear h48 q6 hall
                go_wp2
                go_ret
                exact ⟨by rw [HR.out]; rfl, rfl⟩
            · have q3 : ((s[0].toNat : Int) == 48) = false := by
                rw [beq_eq_false_iff_ne]
                intro h
                exact h48 (UInt8.toNat_inj.1 (by
                  have : s[0].toNat = 48 := by omega
                  rw [this]; rfl))
              have q4 : ((s[0].toNat : Int) != 48) = true := by rw [bne, q3]; rfl
              have q5 : (some s[0] == some (48 : UInt8)) = false := by
                rw [beq_eq_false_iff_ne]
                intro h
                exact h48 (Option.some.inj h)
              have HR : Hid (R = true) := zh (by rw [hall, q5]; rfl)
              clear h48 q5 hall
              go_wp2
              go_ret
              exact ⟨by rw [HR.out]; rfl, rfl⟩
theorem group4_lt {bs : List UInt8} {f : Nat} (hd : DigS (bs.drop f)) {st i : Nat} (hf : f ≤ st) (h4 : i - st ≤ 4) : num ((bs.take i).drop st) < 10000 := by
  have h1 := num_lt ((bs.take i).drop st) (fun b hb => by
    refine hd b ?_
    have h : b ∈ (bs.take i).drop f := by
      obtain ⟨j, hj, rfl⟩ := List.getElem_of_mem hb
      rw [List.getElem_drop]
      have : (bs.take i).drop st = ((bs.take i).drop f).drop (st - f) := by rw [List.drop_drop, show f + (st - f) = st by omega]
      rw [List.mem_iff_getElem?]
      refine ⟨st - f + j, ?_⟩
      rw [List.getElem?_drop, show f + (st - f + j) = st + j by omega]
      exact List.getElem?_eq_getElem _
    rw [List.drop_take] at h
    exact List.mem_of_mem_take h)
  have h2 : (10 : Nat) ^ ((bs.take i).drop st).length ≤ 10 ^ 4 := Nat.pow_le_pow_right zo (by rw [List.length_drop, List.length_take]; omega)
  omega
theorem gather4_step {bs : List UInt8} {st i : Nat} {x : UInt8} (hst : st ≤ i) (hb : 48 ≤ x.toNat ∧ x.toNat ≤ 57) (hx : bs[i]? = some x) :
    ((num ((bs.take i).drop st) : Nat) : Int) * 10 + ((x.toNat : Int) - 48) = (num ((bs.take (i + 1)).drop st) : Nat) := by
  rw [take_drop_snoc hst hx, num_snoc]
  omega
theorem In_ok (s : ByteArray) (z : Int) (w : World) (hz : whole s.data.toList = some z) :
    Calls Tryz.prog 103 #[.string s] w (PlPost w z) := by
  obtain ⟨i0, hi, hz0, hz1, hz2⟩ := info_parts infoI
  obtain ⟨bs, hbs⟩ : ∃ bs, s.data.toList = bs := ⟨_, rfl⟩
  rw [hbs] at hz
  have hn : bs.length = s.size := by rw [← hbs]; rfl
  have hok : okDigs (Dec.cut bs).1 (Dec.cut bs).2 = true := by
    unfold whole at hz
    split at hz
    · assumption
    · cases hz
  have hzz : Dec.mk (num (Dec.cut bs).1) (Dec.cut bs).2 = z := by
    unfold whole at hz
    rw [if_pos hok] at hz
    exact Option.some.inj hz
  have hsz : s.size ≤ 601 := by
    have h1 : (Dec.cut bs).1.length ≤ 600 := by
      unfold okDigs at hok
      simp only [Bool.and_eq_true, decide_eq_true_eq] at hok
      exact hok.1.1.2
    have h2 : bs.length ≤ (Dec.cut bs).1.length + 1 := by
      unfold Dec.cut
      split
      · simp; omega
      · simp
    omega
  have hs0 : 0 < s.size := by
    rcases Nat.eq_zero_or_pos s.size with h | h
    · have : bs = [] := List.length_eq_zero_iff.1 zo
      subst this
      exact absurd hok (by simp [Dec.cut, okDigs])
    · exact h
  have hhd : bs.head? = some s[0] := by
    rw [List.head?_eq_getElem?, ← hbs]
    exact List.getElem?_eq_getElem (by exact hs0)
  obtain ⟨d, Ed⟩ : ∃ d, (Dec.cut bs).1 = d := ⟨_, rfl⟩
  obtain ⟨ng, En⟩ : ∃ ng, (Dec.cut bs).2 = ng := ⟨_, rfl⟩
  rw [Ed, En] at hok hzz
  have HZ : Hid (sgd (num d) ng = z) := zh hzz
  have hC : (d = bs.drop 1 ∧ ng = true) ∨ (d = bs.drop 0 ∧ ng = false) := by
    unfold Dec.cut at Ed En
    by_cases h : bs.head? = some 45
    · rw [if_pos h] at Ed En
      exact .inl ⟨by rw [← Ed, List.drop_one], En.symm⟩
    · rw [if_neg h] at Ed En
      exact .inr ⟨by rw [← Ed]; rfl, En.symm⟩
  have h45 : (ng = true → s[0] = 45) ∧ (s[0] = 45 → ng = true) := by
    unfold Dec.cut at En
    constructor
    · intro h
      by_cases h' : bs.head? = some 45
      · rw [hhd] at h'; exact Option.some.inj h'
      · rw [if_neg h'] at En; rw [← En] at h; cases h
    · intro h
      rw [if_pos (by rw [hhd, h])] at En
      exact En.symm
  have h0 : Below w.heap.size w (w.alloc (.cells #[.bool false, .slice none 0 0] 95)) := belA
  have hx := Box.new w #[.bool false, .slice none 0 0] 95
  have HBS := zh hbs
  have HN := zh hn
  clear hz hzz hhd Ed En hbs hn
  rcases hC with hC | hC
  · obtain ⟨hd, hng⟩ := hC
    subst hng
    have HD := zh hd
    have hds : DigS (bs.drop 1) := by rw [← hd]; exact okDigs_digS hok
    have hle : 1 < s.size := by
      have h1 : d ≠ [] := fun e => by rw [e] at hok; exact absurd hok (by simp [okDigs])
      have h2 : 0 < d.length := List.length_pos_iff.2 h1
      rw [hd, List.length_drop, HN.out] at h2
      omega
    have hq : ((s[0].toNat : Int) == 45) = true := by
      have : s[0] = 45 := by have := h45.1 rfl; exact this
      rw [this]; rfl
    have HDS := zh hds
    clear hd hds hok h45
    go_enter Tryz.func103, Tryz.ntmps103
    go_wp2_with fail
    go_loopw [4, 5, 6, 7] (fun dv ev _ _ wr => ∃ (q : Int) (ls : List Nat), ev = .int .i64 q ∧ -4 ≤ q ∧ q ≤ s.size ∧ Hid ((1 : Int) < q → (s.size : Int) - q = 4 * ls.length) ∧ Hid (ls.length ≤ s.size) ∧ Hid (Dig 10000 ls) ∧ Hid (val 10000 ls = num (bs.drop (max q 1).toNat)) ∧ wr.ownsRow (w.heap.size + 1) 3 1 dv ls.length (ints ls) ∧
        Below (w.heap.size + 1) (w.alloc (.cells #[.bool false, .slice none 0 0] 95)) wr) (fun _ ev _ _ _ => (intOf ev + 4).toNat)
    case atStart => exact ⟨s.size, [], rfl, by omega, by omega, zh (by intro h; simp), zh zi, zh Dig.nil, zh (by rw [show (max (s.size : Int) 1).toNat = bs.length by rw [HN.out]; omega, List.drop_length]; simp [val, num]), World.ownsRow_nil _ _ _ _, Below.refl _ _⟩
    case round =>
      obtain ⟨q, ls, rfl, hq4, hqs, HE, HLL, HDL, HV, hown, hb⟩ := hrel
      by_cases hqf : q ≤ 1
      · have hv : val 10000 ls = num (bs.drop 1) := by rw [HV.out, show (max q 1).toNat = 1 by omega]
        have hz : sgd (val 10000 ls) true = z := by rw [hv, ← HD.out]; exact HZ.out
        have h1 : Below w.heap.size w wr := ⟨hb.os, hb.tape, hb.output, Nat.le_trans zi hb.size, fun i hi => (hb.block i zo).trans (h0.block i hi)⟩
        have hxr := hx.later (w' := wr) ⟨hb.os, hb.tape, hb.output, by have := hb.size; simpa using this, fun i hi => hb.block i (by simpa using hi)⟩
        have cx := hxr.cell
        have fx := hxr.free
        have hg := made_ok true u4 ls wr (Gs.of_owns hown) HDL.out
        rw [hz] at hg
        have HG := zh hg
        obtain ⟨pa, ca, rfl, -⟩ := (Gs.of_owns hown).read
        clear hv hz hg hown HE HV hb
        go_wp2_with fail
        refine HG.out.mono ?_
        rintro e w' ⟨v', rfl, hb, hv⟩
        obtain ⟨bNV, paNV, lNV, caNV, rfl⟩ := hv.agg; have NV := zh hv; clear hv
        have hy := hxr.later hb
        clear cx fx
        have cy := hy.cell
        have fy := hy.free
        go_wp2_with fail
        refine ret_c rfl rfl boxA Tryz.underlying95 rfl zk ?_
        exact ⟨_, rfl, belA, NV.out.set2 hy zd _ _ _ _⟩
      · obtain ⟨e, rfl⟩ : ∃ e : Nat, q = (e : Int) := ⟨q.toNat, by omega⟩
        have hef : 1 < e := by omega
        have hef2 : (1 : Int) < (e : Int) := by omega
        rcases Int.lt_or_le ((e : Int) - 4) 1 with h4 | h4
        · have hst' : (e : Int) - 4 < 1 := by omega
          have hst2 : max ((e : Int) - 4) 1 = 1 := by omega
          have hgl := group4_lt (bs := bs) (f := 1) HDS.out (Nat.le_refl _) (i := e) zo
          have HE2 : Hid ((s.size : Int) - e = 4 * ls.length) := zh (HE.out zo)
          clear HE
          go_wp2_with fail
          obtain ⟨wo, rfl⟩ : ∃ wo : World, wo = wr := ⟨_, rfl⟩
          go_loopw [6, 7] (fun v6 v7 wi => ∃ i : Nat, v7 = .int .i64 (i : Int) ∧ 1 ≤ i ∧ i ≤ e ∧ Hid (v6 = .int .i64 (num ((bs.take i).drop 1) : Nat)) ∧ wo = wi) (fun _ v7 _ => e - (intOf v7).toNat)
          case atStart => exact ⟨1, rfl, Nat.le_refl _, by omega, zh (by rw [List.drop_eq_nil_of_le (by rw [List.length_take]; omega)]; rfl), rfl⟩
          case round =>
            obtain ⟨i, rfl, hi1, hi2, H6, rfl⟩ := hrel
            have e6 := H6.out
            subst e6
            rcases Nat.lt_or_ge i e with hie | hie
            · have his : i < s.size := by omega
              have hx2 : bs[i]? = some s[i] := by rw [← HBS.out]; exact List.getElem?_eq_getElem (by exact his)
              have hdi := HDS.out s[i] (by rw [← HBS.out]; exact get_drop zo his)
              have HS := zh (gather4_step (bs := bs) (st := 1) (x := s[i]) hi1 hdi hx2)
              have hgb := group4_lt (bs := bs) (f := 1) HDS.out (Nat.le_refl _) (i := i) zo
              generalize num ((bs.take i).drop 1) = g at *
              go_wp2_with fail
              exact ⟨⟨i + 1, rfl, by omega, by omega, zh (by rw [← HS.out]), trivial⟩, by simp only [intOf]; omega⟩
            · have hie : i = e := by omega
              subst hie
              have HG := zh (num_group (bs := bs) (s := 1) (e := i) zo (by have := HN.out; omega))
              have hlen : bs.length - i = 4 * ls.length := by have := HE2.out; have := HN.out; omega
              have hmx : (max (i : Int) 1).toNat = i := by omega
              have hv0 := HV.out
              rw [hmx] at hv0
              rw [hlen, Nat.pow_mul, ← hv0] at HG
              generalize num ((bs.take i).drop 1) = gv at *
              have hll : ls.length + 1 ≤ s.size := by have := HE2.out; omega
              have ec : ints ls ++ [.int .i64 (gv : Int)] = ints (ls ++ [gv]) := by unfold ints; simp only [List.map_append, List.map_cons, List.map_nil]
              have EC := zh ec
              clear H6 ec
              go_wp2_with (at_builtin; refine wpList_append_own _ rfl (.tmp 35) (.tmp 37) 93 rfl (w.heap.size + 1) 3 i0 (.int .i64 0) 1 8 Tryz.underlying93 hi hz0 hz1 hz2 rfl zd _ _ _ rfl (hown.alloc _) ⟨wo.heap.size, 0, none⟩ 1 1 [.int .i64 (gv : Int)] rfl rfl (by intro t u ht; match t, ht with | 0, ht => simp at ht; subst ht; simp [Addr.add]) (by intro u hu; simp at hu; subst hu; rfl) (by unfold maxLen; omega) zo (by have := hb.size; simp at *; omega) ?_)
              intro v' w1 hown1 hgrow1 _
              rw [EC.out] at hown1
              have hb3 : Below (w.heap.size + 1) (w.alloc (.cells #[.bool false, .slice none 0 0] 95)) w1 := (hb.alloc (by have := hb.size; simpa using this) _).grown hgrow1 (by simp; have := hb.size; simp at *; omega) (fun k hk => (hown.lt k hk).1)
              have HV2 : Hid (val 10000 (ls ++ [gv]) = num (bs.drop (max ((i : Int) - 4) 1).toNat)) := by
                unfold Hid
                rw [show (max ((i : Int) - 4) 1).toNat = 1 by omega, val_snoc, HG.out, Nat.add_comm, Nat.mul_comm]
              clear hown hgrow1 hst' hst2
              go_wp2_with fail
              refine ⟨⟨(i : Int) - 4, ls ++ [gv], rfl, by omega, by omega, zh (fun h => ?_), zh (by rw [List.length_append]; exact hll), zh (HDL.out.snoc hgl), HV2, by rw [List.length_append]; exact hown1, hb3⟩, ?_⟩
              · have := HE2.out
                rw [List.length_append, List.length_singleton]
                omega
              · simp only [intOf]
                omega
        · obtain ⟨f, rfl⟩ : ∃ f, e = f + 4 := ⟨e - 4, by omega⟩
          have s1 : 1 ≤ f := by omega
          have hst' : ¬ (f : Int) < 1 := by omega
          have hst2 : max (f : Int) 1 = (f : Int) := by omega
          have hgl := group4_lt (bs := bs) (f := 1) HDS.out s1 (i := f + 4) zo
          have HE2 : Hid ((s.size : Int) - ((f + 4 : Nat) : Int) = 4 * ls.length) := zh (HE.out zo)
          clear HE
          go_wp2_with fail
          obtain ⟨wo, rfl⟩ : ∃ wo : World, wo = wr := ⟨_, rfl⟩
          go_loopw [6, 7] (fun v6 v7 wi => ∃ i : Nat, v7 = .int .i64 (i : Int) ∧ f ≤ i ∧ i ≤ f + 4 ∧ Hid (v6 = .int .i64 (num ((bs.take i).drop f) : Nat)) ∧ wo = wi) (fun _ v7 _ => f + 4 - (intOf v7).toNat)
          case atStart => exact ⟨f, rfl, Nat.le_refl _, by omega, zh (by rw [List.drop_eq_nil_of_le (by rw [List.length_take]; omega)]; rfl), rfl⟩
          case round =>
            obtain ⟨i, rfl, hi1, hi2, H6, rfl⟩ := hrel
            have e6 := H6.out
            subst e6
            rcases Nat.lt_or_ge i (f + 4) with hie | hie
            · have his : i < s.size := by omega
              have hx2 : bs[i]? = some s[i] := by rw [← HBS.out]; exact List.getElem?_eq_getElem (by exact his)
              have hdi := HDS.out s[i] (by rw [← HBS.out]; exact get_drop zo his)
              have HS := zh (gather4_step (bs := bs) (st := f) (x := s[i]) hi1 hdi hx2)
              have hgb := group4_lt (bs := bs) (f := 1) HDS.out s1 (i := i) zo
              generalize num ((bs.take i).drop f) = g at *
              go_wp2_with fail
              exact ⟨⟨i + 1, rfl, by omega, by omega, zh (by rw [← HS.out]), trivial⟩, by simp only [intOf]; omega⟩
            · obtain rfl : i = f + 4 := by omega
              have HG := zh (num_group (bs := bs) (s := f) (e := f + 4) zo (by have := HN.out; omega))
              have hlen : bs.length - (f + 4) = 4 * ls.length := by have := HE2.out; have := HN.out; omega
              have hmx : (max ((f + 4 : Nat) : Int) 1).toNat = f + 4 := by omega
              have hv0 := HV.out
              rw [hmx] at hv0
              rw [hlen, Nat.pow_mul, ← hv0] at HG
              generalize num ((bs.take (f + 4)).drop f) = gv at *
              have hll : ls.length + 1 ≤ s.size := by have := HE2.out; omega
              have ec : ints ls ++ [.int .i64 (gv : Int)] = ints (ls ++ [gv]) := by unfold ints; simp only [List.map_append, List.map_cons, List.map_nil]
              have EC := zh ec
              clear H6 ec
              go_wp2_with (at_builtin; refine wpList_append_own _ rfl (.tmp 35) (.tmp 37) 93 rfl (w.heap.size + 1) 3 i0 (.int .i64 0) 1 8 Tryz.underlying93 hi hz0 hz1 hz2 rfl zd _ _ _ rfl (hown.alloc _) ⟨wo.heap.size, 0, none⟩ 1 1 [.int .i64 (gv : Int)] rfl rfl (by intro t u ht; match t, ht with | 0, ht => simp at ht; subst ht; simp [Addr.add]) (by intro u hu; simp at hu; subst hu; rfl) (by unfold maxLen; omega) zo (by have := hb.size; simp at *; omega) ?_)
              intro v' w1 hown1 hgrow1 _
              rw [EC.out] at hown1
              have hb3 : Below (w.heap.size + 1) (w.alloc (.cells #[.bool false, .slice none 0 0] 95)) w1 := (hb.alloc (by have := hb.size; simpa using this) _).grown hgrow1 (by simp; have := hb.size; simp at *; omega) (fun k hk => (hown.lt k hk).1)
              have HV2 : Hid (val 10000 (ls ++ [gv]) = num (bs.drop (max (f : Int) 1).toNat)) := by
                unfold Hid
                rw [show (max (f : Int) 1).toNat = f by omega, val_snoc, HG.out, Nat.add_comm, Nat.mul_comm]
              clear hown hgrow1 hst' hst2
              go_wp2_with fail
              refine ⟨⟨(f : Int), ls ++ [gv], rfl, by omega, by omega, zh (fun h => ?_), zh (by rw [List.length_append]; exact hll), zh (HDL.out.snoc hgl), HV2, by rw [List.length_append]; exact hown1, hb3⟩, ?_⟩
              · have := HE2.out
                rw [List.length_append, List.length_singleton]
                omega
              · simp only [intOf]
                omega
  · obtain ⟨hd, hng⟩ := hC
    subst hng
    have HD := zh hd
    have hds : DigS (bs.drop 0) := by rw [← hd]; exact okDigs_digS hok
    have hle : 0 < s.size := by
      have h1 : d ≠ [] := fun e => by rw [e] at hok; exact absurd hok (by simp [okDigs])
      have h2 : 0 < d.length := List.length_pos_iff.2 h1
      rw [hd, List.length_drop, HN.out] at h2
      omega
    have hq : ((s[0].toNat : Int) == 45) = false := by
      have h : s[0] ≠ 45 := fun e => by have := h45.2 e; cases this
      rw [beq_eq_false_iff_ne]
      intro h2
      exact h (UInt8.toNat_inj.1 (by
        have : s[0].toNat = 45 := by omega
        rw [this]; rfl))
    have HDS := zh hds
    clear hd hds hok h45
    go_enter Tryz.func103, Tryz.ntmps103
    go_wp2_with fail
    go_loopw [4, 5, 6, 7] (fun dv ev _ _ wr => ∃ (q : Int) (ls : List Nat), ev = .int .i64 q ∧ -4 ≤ q ∧ q ≤ s.size ∧ Hid ((0 : Int) < q → (s.size : Int) - q = 4 * ls.length) ∧ Hid (ls.length ≤ s.size) ∧ Hid (Dig 10000 ls) ∧ Hid (val 10000 ls = num (bs.drop (max q 0).toNat)) ∧ wr.ownsRow (w.heap.size + 1) 3 1 dv ls.length (ints ls) ∧
        Below (w.heap.size + 1) (w.alloc (.cells #[.bool false, .slice none 0 0] 95)) wr) (fun _ ev _ _ _ => (intOf ev + 4).toNat)
    case atStart => exact ⟨s.size, [], rfl, by omega, by omega, zh (by intro h; simp), zh zi, zh Dig.nil, zh (by rw [show (max (s.size : Int) 0).toNat = bs.length by rw [HN.out]; omega, List.drop_length]; simp [val, num]), World.ownsRow_nil _ _ _ _, Below.refl _ _⟩
    case round =>
      obtain ⟨q, ls, rfl, hq4, hqs, HE, HLL, HDL, HV, hown, hb⟩ := hrel
      by_cases hqf : q ≤ 0
      · have hv : val 10000 ls = num (bs.drop 0) := by rw [HV.out, show (max q 0).toNat = 0 by omega]
        have hz : sgd (val 10000 ls) false = z := by rw [hv, ← HD.out]; exact HZ.out
        have h1 : Below w.heap.size w wr := ⟨hb.os, hb.tape, hb.output, Nat.le_trans zi hb.size, fun i hi => (hb.block i zo).trans (h0.block i hi)⟩
        have hxr := hx.later (w' := wr) ⟨hb.os, hb.tape, hb.output, by have := hb.size; simpa using this, fun i hi => hb.block i (by simpa using hi)⟩
        have cx := hxr.cell
        have fx := hxr.free
        have hg := made_ok false u4 ls wr (Gs.of_owns hown) HDL.out
        rw [hz] at hg
        have HG := zh hg
        obtain ⟨pa, ca, rfl, -⟩ := (Gs.of_owns hown).read
        clear hv hz hg hown HE HV hb
        go_wp2_with fail
        refine HG.out.mono ?_
        rintro e w' ⟨v', rfl, hb, hv⟩
        obtain ⟨bNV, paNV, lNV, caNV, rfl⟩ := hv.agg; have NV := zh hv; clear hv
        have hy := hxr.later hb
        clear cx fx
        have cy := hy.cell
        have fy := hy.free
        go_wp2_with fail
        refine ret_c rfl rfl boxA Tryz.underlying95 rfl zk ?_
        exact ⟨_, rfl, belA, NV.out.set2 hy zd _ _ _ _⟩
      · obtain ⟨e, rfl⟩ : ∃ e : Nat, q = (e : Int) := ⟨q.toNat, by omega⟩
        have hef : 0 < e := by omega
        have hef2 : (0 : Int) < (e : Int) := by omega
        rcases Int.lt_or_le ((e : Int) - 4) 0 with h4 | h4
        · have hst' : (e : Int) - 4 < 0 := by omega
          have hst2 : max ((e : Int) - 4) 0 = 0 := by omega
          have hgl := group4_lt (bs := bs) (f := 0) HDS.out (Nat.le_refl _) (i := e) zo
          have HE2 : Hid ((s.size : Int) - e = 4 * ls.length) := zh (HE.out zo)
          clear HE
          go_wp2_with fail
          obtain ⟨wo, rfl⟩ : ∃ wo : World, wo = wr := ⟨_, rfl⟩
          go_loopw [6, 7] (fun v6 v7 wi => ∃ i : Nat, v7 = .int .i64 (i : Int) ∧ 0 ≤ i ∧ i ≤ e ∧ Hid (v6 = .int .i64 (num ((bs.take i).drop 0) : Nat)) ∧ wo = wi) (fun _ v7 _ => e - (intOf v7).toNat)
          case atStart => exact ⟨0, rfl, Nat.le_refl _, by omega, zh (by rw [List.drop_eq_nil_of_le (by rw [List.length_take]; omega)]; rfl), rfl⟩
          case round =>
            obtain ⟨i, rfl, hi1, hi2, H6, rfl⟩ := hrel
            have e6 := H6.out
            subst e6
            rcases Nat.lt_or_ge i e with hie | hie
            · have his : i < s.size := by omega
              have hx2 : bs[i]? = some s[i] := by rw [← HBS.out]; exact List.getElem?_eq_getElem (by exact his)
              have hdi := HDS.out s[i] (by rw [← HBS.out]; exact get_drop zo his)
              have HS := zh (gather4_step (bs := bs) (st := 0) (x := s[i]) hi1 hdi hx2)
              have hgb := group4_lt (bs := bs) (f := 0) HDS.out (Nat.le_refl _) (i := i) zo
              generalize num ((bs.take i).drop 0) = g at *
              go_wp2_with fail
              exact ⟨⟨i + 1, rfl, by omega, by omega, zh (by rw [← HS.out]), trivial⟩, by simp only [intOf]; omega⟩
            · have hie : i = e := by omega
              subst hie
              have HG := zh (num_group (bs := bs) (s := 0) (e := i) zo (by have := HN.out; omega))
              have hlen : bs.length - i = 4 * ls.length := by have := HE2.out; have := HN.out; omega
              have hmx : (max (i : Int) 0).toNat = i := by omega
              have hv0 := HV.out
              rw [hmx] at hv0
              rw [hlen, Nat.pow_mul, ← hv0] at HG
              generalize num ((bs.take i).drop 0) = gv at *
              have hll : ls.length + 1 ≤ s.size := by have := HE2.out; omega
              have ec : ints ls ++ [.int .i64 (gv : Int)] = ints (ls ++ [gv]) := by unfold ints; simp only [List.map_append, List.map_cons, List.map_nil]
              have EC := zh ec
              clear H6 ec
              go_wp2_with (at_builtin; refine wpList_append_own _ rfl (.tmp 35) (.tmp 37) 93 rfl (w.heap.size + 1) 3 i0 (.int .i64 0) 1 8 Tryz.underlying93 hi hz0 hz1 hz2 rfl zd _ _ _ rfl (hown.alloc _) ⟨wo.heap.size, 0, none⟩ 1 1 [.int .i64 (gv : Int)] rfl rfl (by intro t u ht; match t, ht with | 0, ht => simp at ht; subst ht; simp [Addr.add]) (by intro u hu; simp at hu; subst hu; rfl) (by unfold maxLen; omega) zo (by have := hb.size; simp at *; omega) ?_)
              intro v' w1 hown1 hgrow1 _
              rw [EC.out] at hown1
              have hb3 : Below (w.heap.size + 1) (w.alloc (.cells #[.bool false, .slice none 0 0] 95)) w1 := (hb.alloc (by have := hb.size; simpa using this) _).grown hgrow1 (by simp; have := hb.size; simp at *; omega) (fun k hk => (hown.lt k hk).1)
              have HV2 : Hid (val 10000 (ls ++ [gv]) = num (bs.drop (max ((i : Int) - 4) 0).toNat)) := by
                unfold Hid
                rw [show (max ((i : Int) - 4) 0).toNat = 0 by omega, val_snoc, HG.out, Nat.add_comm, Nat.mul_comm]
              clear hown hgrow1 hst' hst2
              go_wp2_with fail
              refine ⟨⟨(i : Int) - 4, ls ++ [gv], rfl, by omega, by omega, zh (fun h => ?_), zh (by rw [List.length_append]; exact hll), zh (HDL.out.snoc hgl), HV2, by rw [List.length_append]; exact hown1, hb3⟩, ?_⟩
              · have := HE2.out
                rw [List.length_append, List.length_singleton]
                omega
              · simp only [intOf]
                omega
        · obtain ⟨f, rfl⟩ : ∃ f, e = f + 4 := ⟨e - 4, by omega⟩
          have s1 : 0 ≤ f := by omega
          have hst' : ¬ (f : Int) < 0 := by omega
          have hst2 : max (f : Int) 0 = (f : Int) := by omega
          have hgl := group4_lt (bs := bs) (f := 0) HDS.out s1 (i := f + 4) zo
          have HE2 : Hid ((s.size : Int) - ((f + 4 : Nat) : Int) = 4 * ls.length) := zh (HE.out zo)
          clear HE
          go_wp2_with fail
          obtain ⟨wo, rfl⟩ : ∃ wo : World, wo = wr := ⟨_, rfl⟩
          go_loopw [6, 7] (fun v6 v7 wi => ∃ i : Nat, v7 = .int .i64 (i : Int) ∧ f ≤ i ∧ i ≤ f + 4 ∧ Hid (v6 = .int .i64 (num ((bs.take i).drop f) : Nat)) ∧ wo = wi) (fun _ v7 _ => f + 4 - (intOf v7).toNat)
          case atStart => exact ⟨f, rfl, Nat.le_refl _, by omega, zh (by rw [List.drop_eq_nil_of_le (by rw [List.length_take]; omega)]; rfl), rfl⟩
          case round =>
            obtain ⟨i, rfl, hi1, hi2, H6, rfl⟩ := hrel
            have e6 := H6.out
            subst e6
            rcases Nat.lt_or_ge i (f + 4) with hie | hie
            · have his : i < s.size := by omega
              have hx2 : bs[i]? = some s[i] := by rw [← HBS.out]; exact List.getElem?_eq_getElem (by exact his)
              have hdi := HDS.out s[i] (by rw [← HBS.out]; exact get_drop zo his)
              have HS := zh (gather4_step (bs := bs) (st := f) (x := s[i]) hi1 hdi hx2)
              have hgb := group4_lt (bs := bs) (f := 0) HDS.out s1 (i := i) zo
              generalize num ((bs.take i).drop f) = g at *
              go_wp2_with fail
              exact ⟨⟨i + 1, rfl, by omega, by omega, zh (by rw [← HS.out]), trivial⟩, by simp only [intOf]; omega⟩
            · obtain rfl : i = f + 4 := by omega
              have HG := zh (num_group (bs := bs) (s := f) (e := f + 4) zo (by have := HN.out; omega))
              have hlen : bs.length - (f + 4) = 4 * ls.length := by have := HE2.out; have := HN.out; omega
              have hmx : (max ((f + 4 : Nat) : Int) 0).toNat = f + 4 := by omega
              have hv0 := HV.out
              rw [hmx] at hv0
              rw [hlen, Nat.pow_mul, ← hv0] at HG
              generalize num ((bs.take (f + 4)).drop f) = gv at *
              have hll : ls.length + 1 ≤ s.size := by have := HE2.out; omega
              have ec : ints ls ++ [.int .i64 (gv : Int)] = ints (ls ++ [gv]) := by unfold ints; simp only [List.map_append, List.map_cons, List.map_nil]
              have EC := zh ec
              clear H6 ec
              go_wp2_with (at_builtin; refine wpList_append_own _ rfl (.tmp 35) (.tmp 37) 93 rfl (w.heap.size + 1) 3 i0 (.int .i64 0) 1 8 Tryz.underlying93 hi hz0 hz1 hz2 rfl zd _ _ _ rfl (hown.alloc _) ⟨wo.heap.size, 0, none⟩ 1 1 [.int .i64 (gv : Int)] rfl rfl (by intro t u ht; match t, ht with | 0, ht => simp at ht; subst ht; simp [Addr.add]) (by intro u hu; simp at hu; subst hu; rfl) (by unfold maxLen; omega) zo (by have := hb.size; simp at *; omega) ?_)
              intro v' w1 hown1 hgrow1 _
              rw [EC.out] at hown1
              have hb3 : Below (w.heap.size + 1) (w.alloc (.cells #[.bool false, .slice none 0 0] 95)) w1 := (hb.alloc (by have := hb.size; simpa using this) _).grown hgrow1 (by simp; have := hb.size; simp at *; omega) (fun k hk => (hown.lt k hk).1)
              have HV2 : Hid (val 10000 (ls ++ [gv]) = num (bs.drop (max (f : Int) 0).toNat)) := by
                unfold Hid
                rw [show (max (f : Int) 0).toNat = f by omega, val_snoc, HG.out, Nat.add_comm, Nat.mul_comm]
              clear hown hgrow1 hst' hst2
              go_wp2_with fail
              refine ⟨⟨(f : Int), ls ++ [gv], rfl, by omega, by omega, zh (fun h => ?_), zh (by rw [List.length_append]; exact hll), zh (HDL.out.snoc hgl), HV2, by rw [List.length_append]; exact hown1, hb3⟩, ?_⟩
              · have := HE2.out
                rw [List.length_append, List.length_singleton]
                omega
              · simp only [intOf]
                omega
end Go.Proofs.verdigrisref01
namespace Go.Proofs.verdigrisref02
open Go Go.RowKit Go.SW Go.Num Go.Mem Go.Proofs Go.Dec Go.Proofs.verdigrisref01
def Ra (w : World) (v : Value) (q : Rat) : Prop := ∃ bn pn ln cn bd pd ld cd, v = .agg #[.bool bn, .slice pn ln cn, .bool bd, .slice pd ld cd] ∧ Pl w (.agg #[.bool bn, .slice pn ln cn]) q.num ∧ Pl w (.agg #[.bool bd, .slice pd ld cd]) q.den
theorem Ra.later {w w' : World} {v : Value} {q : Rat} (h : Ra w v q) (hb : Below w.heap.size w w') : Ra w' v q := by
  obtain ⟨bn, pn, ln, cn, bd, pd, ld, cd, e, h1, h2⟩ := h
  exact ⟨bn, pn, ln, cn, bd, pd, ld, cd, e, h1.later hb, h2.later hb⟩
def RaPost (w : World) (q : Rat) (e : Ending) (w' : World) : Prop := ∃ v', e = .returned v' ∧ Below w.heap.size w w' ∧ Ra w' v' q
theorem low_parts {n d : Int} (hd : 0 < d) : ((n : Rat) / (d : Rat)).num = n / (Nat.gcd n.natAbs d.natAbs : Int) ∧ (((n : Rat) / (d : Rat)).den : Int) = d / (Nat.gcd n.natAbs d.natAbs : Int) := by
  obtain ⟨k, rfl⟩ := Int.eq_ofNat_of_zero_le (Int.le_of_lt hd)
  have hk : 0 < k := by omega
  have e : (n : Rat) / ((k : Int) : Rat) = mkRat n k := by
    rw [Rat.mkRat_eq_div]
    rfl
  have h := Fra.mk_parts n hk
  rw [e, Int.natAbs_natCast]
  refine ⟨?_, ?_⟩
  · rw [h.1, Fra.sgd_divn (Nat.gcd_dvd_left _ _)]
  · rw [h.2, Int.natCast_ediv]
theorem Pl.set4 {w : World} {v : Value} {z : Int} (h : Pl w v z) {b : Nat} {cs : Array Value} {T' : TypeId} (hx : Box w b cs T') (hT : 3 ≠ T') (u0 u1 u2 u3 : Value) :
    Pl ((((w.setCell ⟨b, 0, none⟩ u0).setCell ⟨b, 1, none⟩ u1).setCell ⟨b, 2, none⟩ u2).setCell ⟨b, 3, none⟩ u3) v z :=
  (h.set2 hx hT 0 1 u0 u1).set2 ((hx.set 0 u0).set 1 u1) hT 2 3 u2 u3
theorem Ra.set4 {w : World} {v : Value} {q : Rat} (h : Ra w v q) {b : Nat} {cs : Array Value} {T' : TypeId} (hx : Box w b cs T') (hT : 3 ≠ T') (u0 u1 u2 u3 : Value) :
    Ra ((((w.setCell ⟨b, 0, none⟩ u0).setCell ⟨b, 1, none⟩ u1).setCell ⟨b, 2, none⟩ u2).setCell ⟨b, 3, none⟩ u3) v q := by
  obtain ⟨bn, pn, ln, cn, bd, pd, ld, cd, e, h1, h2⟩ := h
  exact ⟨bn, pn, ln, cn, bd, pd, ld, cd, e, Pl.set4 h1 hx hT u0 u1 u2 u3, Pl.set4 h2 hx hT u0 u1 u2 u3⟩
theorem Lowest_pos (x y : Value) (n d : Int) (w : World) (hx : Pl w x n) (hy : Pl w y d) (ha : sz 10000 n.natAbs ≤ 274877906944) (hb : sz 10000 d.natAbs ≤ 274877906944) (hd : 0 < d) :
    Calls Tryz.prog 107 #[x, y] w (RaPost w ((n : Rat) / (d : Rat))) := by
  obtain ⟨e1, e2⟩ := low_parts (n := n) hd
  obtain ⟨q, Eq⟩ : ∃ q : Rat, (n : Rat) / (d : Rat) = q := ⟨_, rfl⟩
  rw [Eq] at e1 e2 ⊢
  obtain ⟨bA, paA, lA, caA, rfl⟩ := hx.agg
  obtain ⟨bB, paB, lB, caB, rfl⟩ := hy.agg
  have hbf : bB = false := by rw [hy.nm.2]; simp; omega
  subst hbf
  have NA := zh hx
  have NB := zh hy
  have KA := zh ha
  have KB := zh hb
  have hg0 : 0 < Nat.gcd n.natAbs d.natAbs := Nat.gcd_pos_of_pos_right _ zo
  have hgd : Nat.gcd n.natAbs d.natAbs ≤ d.natAbs := Nat.le_of_dvd zo (Nat.gcd_dvd_right _ _)
  have dn : ((Nat.gcd n.natAbs d.natAbs : Nat) : Int) ∣ n := by rw [← Int.dvd_natAbs, Int.ofNat_dvd]; exact Nat.gcd_dvd_left _ _
  have dd : ((Nat.gcd n.natAbs d.natAbs : Nat) : Int) ∣ d := by rw [← Int.dvd_natAbs, Int.ofNat_dvd]; exact Nat.gcd_dvd_right _ _
  have HDV := zh (fun W => Divisor_ok (.agg #[.bool bA, .slice paA lA caA]) (.agg #[.bool false, .slice paB lB caB]) n d W)
  generalize Nat.gcd n.natAbs d.natAbs = g at *
  have G0 : Hid (0 < (g : Int)) := zh zo
  have KG : Hid (sz 10000 (g : Int).natAbs ≤ 274877906944) := zh (Nat.le_trans (sz_mono zo (by simpa using hgd)) hb)
  have DN := zh dn
  have DD := zh dd
  have E1 := zh e1
  have E2 := zh e2
  clear e1 e2 Eq hx hy ha hb hd hg0 hgd dn dd
  go_enter Tryz.func107, Tryz.ntmps107
  go_wp2_with fail
  obtain ⟨wq1, EW, hz, X1, X2, X3⟩ := al3 w #[.bool bA, .slice paA lA caA] 95 #[.bool false, .slice paB lB caB] 95 #[.bool false, .slice none 0 0, .bool false, .slice none 0 0] 97
  rw [EW]
  replace NA := zh (NA.out.later hz)
  replace NB := zh (NB.out.later hz)
  have hk2 := Bt (Below.refl _ _) hz
  clear EW hz
  refine (HDV.out _ NA.out NB.out KA.out KB.out).mono ?_
  rintro e wc3 ⟨v, rfl, hb3, hv4⟩
  obtain ⟨bG, paG, lG, caG, rfl⟩ := hv4.agg
  replace NA := zh (NA.out.later hb3)
  replace NB := zh (NB.out.later hb3)
  replace X1 := X1.bl hb3
  replace X2 := X2.bl hb3
  replace X3 := X3.bl hb3
  have hk5 := Bt hk2 hb3
  clear hk2
  have NG := zh hv4
  clear hb3 hv4
  obtain ⟨cX1, lX1, fX1⟩ := X1.clf
  go_upto_region 4 with fail
  clear cX1 lX1 fX1
  obtain ⟨wq6, EW, hz, X4⟩ := al1 wc3 #[.bool bG, .slice paG lG caG] 95
  rw [EW]
  replace NA := zh (NA.out.later hz)
  replace NB := zh (NB.out.later hz)
  replace X1 := X1.bl hz
  replace X2 := X2.bl hz
  replace X3 := X3.bl hz
  replace NG := zh (NG.out.later hz)
  have hk7 := Bt hk5 hz
  clear hk5
  clear EW hz
  generalize wc3.heap.size = pq6 at *
  obtain ⟨cX1, lX1, fX1⟩ := X1.clf
  obtain ⟨cX4, lX4, fX4⟩ := X4.clf
  go_wp2_with fail
  clear cX1 lX1 fX1 cX4 lX4 fX4
  refine (Parts_ok _ _ _ _ _ NA.out NG.out KA.out KG.out G0.out (.inr DN.out)).mono ?_
  rintro e wc8 ⟨vx, vy, rfl, hb8, hq, hr⟩
  obtain ⟨bX, paX, lX, caX, rfl⟩ := hq.agg
  obtain ⟨bU, paU, lU, caU, rfl⟩ := hr.agg
  replace NA := zh (NA.out.later hb8)
  replace NB := zh (NB.out.later hb8)
  replace X1 := X1.bl hb8
  replace X2 := X2.bl hb8
  replace X3 := X3.bl hb8
  replace NG := zh (NG.out.later hb8)
  replace X4 := X4.bl hb8
  have hk10 := Bt hk7 hb8
  clear hk7
  have NX := zh hq
  clear hb8 hq
  obtain ⟨cX2, lX2, fX2⟩ := X2.clf
  obtain ⟨cX4, lX4, fX4⟩ := X4.clf
  go_upto_region 5 with fail
  clear cX2 lX2 fX2 cX4 lX4 fX4
  obtain ⟨wq11, EW, hz, X5, -⟩ := al2 wc8 #[.bool bX, .slice paX lX caX] 95 #[.bool bU, .slice paU lU caU] 95
  rw [EW]
  clear NA
  replace NB := zh (NB.out.later hz)
  clear X1
  replace X2 := X2.bl hz
  replace X3 := X3.bl hz
  replace NG := zh (NG.out.later hz)
  replace X4 := X4.bl hz
  replace NX := zh (NX.out.later hz)
  have hk12 := Bt hk10 hz
  clear hk10
  clear EW hz
  generalize wc8.heap.size = pq11 at *
  obtain ⟨cX2, lX2, fX2⟩ := X2.clf
  obtain ⟨cX4, lX4, fX4⟩ := X4.clf
  go_wp2_with fail
  clear cX2 lX2 fX2 cX4 lX4 fX4
  refine (Parts_ok _ _ _ _ _ NB.out NG.out KB.out KG.out G0.out (.inr DD.out)).mono ?_
  rintro e wc13 ⟨vx, vy, rfl, hb13, hq, hr⟩
  obtain ⟨bY, paY, lY, caY, rfl⟩ := hq.agg
  obtain ⟨bV, paV, lV, caV, rfl⟩ := hr.agg
  replace NB := zh (NB.out.later hb13)
  replace X2 := X2.bl hb13
  replace X3 := X3.bl hb13
  replace NG := zh (NG.out.later hb13)
  replace X4 := X4.bl hb13
  replace NX := zh (NX.out.later hb13)
  replace X5 := X5.bl hb13
  have hk15 := Bt hk12 hb13
  clear hk12
  have NY := zh hq
  clear hb13 hq
  obtain ⟨cX5, lX5, fX5⟩ := X5.clf
  obtain ⟨cX3, lX3, fX3⟩ := X3.clf
  go_upto_region 6 with fail
  clear cX5 lX5 fX5 cX3 lX3 fX3
  obtain ⟨wq16, EW, hz, X7, -⟩ := al2 wc13 #[.bool bY, .slice paY lY caY] 95 #[.bool bV, .slice paV lV caV] 95
  rw [EW]
  clear NB
  clear X2
  replace X3 := X3.bl hz
  clear NG
  clear X4
  replace NX := zh (NX.out.later hz)
  replace X5 := X5.bl hz
  replace NY := zh (NY.out.later hz)
  have hk17 := Bt hk15 hz
  clear hk15
  clear EW hz
  generalize wc13.heap.size = pq16 at *
  obtain ⟨cX5, lX5, fX5⟩ := X5.clf
  obtain ⟨cX7, lX7, fX7⟩ := X7.clf
  obtain ⟨cX3, lX3, fX3⟩ := X3.clf
  have hres := X3.out
  have cres := hres.cell
  have fres := hres.free
  go_wp2_with fail
  refine ret_c rfl rfl boxA Tryz.underlying97 rfl zk ?_
  have hx := Pl.set4 NX.out hres zd (.bool bX) (.slice paX lX caX) (.bool bY) (.slice paY lY caY)
  have hy := Pl.set4 NY.out hres zd (.bool bX) (.slice paX lX caX) (.bool bY) (.slice paY lY caY)
  rw [← E1.out] at hx
  rw [← E2.out] at hy
  exact ⟨_, rfl, belA, _, _, _, _, _, _, _, _, rfl, hx, hy⟩
theorem Lowest_neg (x y : Value) (n d : Int) (w : World) (hx : Pl w x n) (hy : Pl w y d) (ha : sz 10000 n.natAbs ≤ 274877906944) (hb : sz 10000 d.natAbs ≤ 274877906944) (hd : d < 0) :
    Calls Tryz.prog 107 #[x, y] w (RaPost w ((n : Rat) / (d : Rat))) := by
  obtain ⟨e1, e2⟩ := low_parts (n := -n) (d := -d) zo
  rw [show ((-n : Int) : Rat) / ((-d : Int) : Rat) = (n : Rat) / (d : Rat) by rw [Rat.intCast_neg, Rat.intCast_neg, Rat.div_def, Rat.div_def]; grind, Int.natAbs_neg, Int.natAbs_neg] at e1 e2
  obtain ⟨q, Eq⟩ : ∃ q : Rat, (n : Rat) / (d : Rat) = q := ⟨_, rfl⟩
  rw [Eq] at e1 e2 ⊢
  obtain ⟨bA, paA, lA, caA, rfl⟩ := hx.agg
  obtain ⟨bB, paB, lB, caB, rfl⟩ := hy.agg
  have hbf : bB = true := by rw [hy.nm.2]; simp; omega
  subst hbf
  have NA := zh hx
  have NB := zh hy
  have KA := zh ha
  have KB := zh hb
  have hg0 : 0 < Nat.gcd n.natAbs d.natAbs := Nat.gcd_pos_of_pos_right _ zo
  have hgd : Nat.gcd n.natAbs d.natAbs ≤ d.natAbs := Nat.le_of_dvd zo (Nat.gcd_dvd_right _ _)
  have dn : ((Nat.gcd n.natAbs d.natAbs : Nat) : Int) ∣ -n := by rw [Int.dvd_neg]; rw [← Int.dvd_natAbs, Int.ofNat_dvd]; exact Nat.gcd_dvd_left _ _
  have dd : ((Nat.gcd n.natAbs d.natAbs : Nat) : Int) ∣ -d := by rw [Int.dvd_neg]; rw [← Int.dvd_natAbs, Int.ofNat_dvd]; exact Nat.gcd_dvd_right _ _
  have HDV := zh (fun x y W => Divisor_ok x y (-n) (-d) W)
  have KA' : Hid (sz 10000 (-n).natAbs ≤ 274877906944) := zh (by rw [Int.natAbs_neg]; exact ha)
  have KB' : Hid (sz 10000 (-d).natAbs ≤ 274877906944) := zh (by rw [Int.natAbs_neg]; exact hb)
  rw [Int.natAbs_neg, Int.natAbs_neg] at HDV
  generalize Nat.gcd n.natAbs d.natAbs = g at *
  have G0 : Hid (0 < (g : Int)) := zh zo
  have KG : Hid (sz 10000 (g : Int).natAbs ≤ 274877906944) := zh (Nat.le_trans (sz_mono zo (by simpa using hgd)) hb)
  have DN := zh dn
  have DD := zh dd
  have E1 := zh e1
  have E2 := zh e2
  clear e1 e2 Eq hx hy ha hb hd hg0 hgd dn dd
  go_enter Tryz.func107, Tryz.ntmps107
  go_wp2_with fail
  obtain ⟨wq1, EW, hz, X1, X2, X3⟩ := al3 w #[.bool bA, .slice paA lA caA] 95 #[.bool true, .slice paB lB caB] 95 #[.bool false, .slice none 0 0, .bool false, .slice none 0 0] 97
  rw [EW]
  replace NA := zh (NA.out.later hz)
  replace NB := zh (NB.out.later hz)
  have hk2 := Bt (Below.refl _ _) hz
  clear EW hz
  obtain ⟨cX1, lX1, fX1⟩ := X1.clf
  obtain ⟨cX2, lX2, fX2⟩ := X2.clf
  refine wp_region_walk [(.read, 0), (.read, 2), (.ext, 1), (.ext, 3), (.fin, 4), (.fin, 5)] zk zk zR zP ?_
  repeat (first | (refine walk_pure0 rfl rfl fun J h => ?_; go_simp; refine h _ ?_; clear h J) | (refine walk_load rfl rfl rfl rfl fun J h => ?_; go_simp; refine h _ ?_; clear h J; try go_simp))
  refine walk_ext rfl rfl (fun we3 hb3 J hJ => ?_); go_simp
  have hh3 : Below wq1.heap.size wq1 we3 := belA
  clear hb3
  refine (Turn_ok _ _ _ (NA.out.later hh3)).mono ?_
  rintro e wc4 ⟨v, rfl, hb4, hv5⟩
  obtain ⟨bC, paC, lC, caC, rfl⟩ := hv5.agg
  refine hJ _ _ hb4 ?_
  clear hJ J
  have hh4 := Bt hh3 hb4
  have NC := zh hv5
  clear hh3 hb4 hv5
  repeat (first | (refine walk_pure0 rfl rfl fun J h => ?_; go_simp; refine h _ ?_; clear h J) | (refine walk_load rfl rfl rfl rfl fun J h => ?_; go_simp; refine h _ ?_; clear h J; try go_simp))
  refine walk_ext rfl rfl (fun we6 hb6 J hJ => ?_); go_simp
  have hh6 : Below wq1.heap.size wq1 we6 := Bt hh4 belA
  replace NC := zh (NC.out.later (show Below wc4.heap.size wc4 we6 from belA))
  clear hb6 hh4
  refine (Turn_ok _ _ _ (NB.out.later hh6)).mono ?_
  rintro e wc7 ⟨v, rfl, hb7, hv8⟩
  obtain ⟨bD, paD, lD, caD, rfl⟩ := hv8.agg
  refine hJ _ _ hb7 ?_
  clear hJ J
  have hh7 := Bt hh6 hb7
  replace NC := zh (NC.out.later hb7)
  have ND := zh hv8
  clear hh6 hb7 hv8
  repeat (first | (refine walk_pure0 rfl rfl fun J h => ?_; go_simp; refine h _ ?_; clear h J) | (refine walk_load rfl rfl rfl rfl fun J h => ?_; go_simp; refine h _ ?_; clear h J; try go_simp))
  refine walk_fin [_, _] rfl (fun wf9 hf9 => ?_)
  replace NC := zh (NC.out.later (show Below wc7.heap.size wc7 wf9 from belA))
  replace ND := zh (ND.out.later (show Below wc7.heap.size wc7 wf9 from belA))
  have hh9 : Below wq1.heap.size wq1 wf9 := Bt hh7 belA
  clear hf9 hh7
  clear cX1 lX1 fX1 cX2 lX2 fX2
  replace NA := zh (NA.out.later hh9)
  replace NB := zh (NB.out.later hh9)
  replace X1 := X1.bl hh9
  replace X2 := X2.bl hh9
  replace X3 := X3.bl hh9
  have hk10 := Bt hk2 hh9
  clear hk2
  clear hh9
  obtain ⟨cX1, lX1, fX1⟩ := X1.clf
  obtain ⟨cX2, lX2, fX2⟩ := X2.clf
  go_upto_region 3 with fail
  clear cX1 lX1 fX1 cX2 lX2 fX2
  have hz : Below w.heap.size w ((((wf9.setCell ⟨w.heap.size, 0, none⟩ (.bool bC)).setCell ⟨w.heap.size, 1, none⟩ (.slice paC lC caC)).setCell ⟨w.heap.size + 1, 0, none⟩ (.bool bD)).setCell ⟨w.heap.size + 1, 1, none⟩ (.slice paD lD caD)) := belA
  obtain ⟨wq11, EW⟩ : ∃ y, ((((wf9.setCell ⟨w.heap.size, 0, none⟩ (.bool bC)).setCell ⟨w.heap.size, 1, none⟩ (.slice paC lC caC)).setCell ⟨w.heap.size + 1, 0, none⟩ (.bool bD)).setCell ⟨w.heap.size + 1, 1, none⟩ (.slice paD lD caD)) = y := ⟨_, rfl⟩
  have tX1 := ((((X1.out.set 0 (.bool bC)).set 1 (.slice paC lC caC)).setOther (a := ⟨w.heap.size + 1, 0, none⟩) (.bool bD) (by first | assumption | (simp; done) | (simp; omega))).setOther (a := ⟨w.heap.size + 1, 1, none⟩) (.slice paD lD caD) (by first | assumption | (simp; done) | (simp; omega)))
  have tX2 := ((((X2.out.setOther (a := ⟨w.heap.size, 0, none⟩) (.bool bC) (by first | assumption | (simp; done) | (simp; omega))).setOther (a := ⟨w.heap.size, 1, none⟩) (.slice paC lC caC) (by first | assumption | (simp; done) | (simp; omega))).set 0 (.bool bD)).set 1 (.slice paD lD caD))
  have tX3 := ((((X3.out.setOther (a := ⟨w.heap.size, 0, none⟩) (.bool bC) (by first | assumption | (simp; done) | (simp; omega))).setOther (a := ⟨w.heap.size, 1, none⟩) (.slice paC lC caC) (by first | assumption | (simp; done) | (simp; omega))).setOther (a := ⟨w.heap.size + 1, 0, none⟩) (.bool bD) (by first | assumption | (simp; done) | (simp; omega))).setOther (a := ⟨w.heap.size + 1, 1, none⟩) (.slice paD lD caD) (by first | assumption | (simp; done) | (simp; omega)))
  have tNC := ((((NC.out.setOther X1.out zd 0 (.bool bC)).setOther (X1.out.set 0 (.bool bC)) zd 1 (.slice paC lC caC)).setOther ((X2.out.setOther (a := ⟨w.heap.size, 0, none⟩) (.bool bC) (by first | assumption | (simp; done) | (simp; omega))).setOther (a := ⟨w.heap.size, 1, none⟩) (.slice paC lC caC) (by first | assumption | (simp; done) | (simp; omega))) zd 0 (.bool bD)).setOther (((X2.out.setOther (a := ⟨w.heap.size, 0, none⟩) (.bool bC) (by first | assumption | (simp; done) | (simp; omega))).setOther (a := ⟨w.heap.size, 1, none⟩) (.slice paC lC caC) (by first | assumption | (simp; done) | (simp; omega))).set 0 (.bool bD)) zd 1 (.slice paD lD caD))
  have tND := ((((ND.out.setOther X1.out zd 0 (.bool bC)).setOther (X1.out.set 0 (.bool bC)) zd 1 (.slice paC lC caC)).setOther ((X2.out.setOther (a := ⟨w.heap.size, 0, none⟩) (.bool bC) (by first | assumption | (simp; done) | (simp; omega))).setOther (a := ⟨w.heap.size, 1, none⟩) (.slice paC lC caC) (by first | assumption | (simp; done) | (simp; omega))) zd 0 (.bool bD)).setOther (((X2.out.setOther (a := ⟨w.heap.size, 0, none⟩) (.bool bC) (by first | assumption | (simp; done) | (simp; omega))).setOther (a := ⟨w.heap.size, 1, none⟩) (.slice paC lC caC) (by first | assumption | (simp; done) | (simp; omega))).set 0 (.bool bD)) zd 1 (.slice paD lD caD))
  clear NA
  clear NB
  rw [EW] at tX1
  replace X1 : Hid (Box wq11 (w.heap.size) #[.bool bC, .slice paC lC caC] 95) := zh tX1
  clear tX1
  rw [EW] at tX2
  replace X2 : Hid (Box wq11 (w.heap.size + 1) #[.bool bD, .slice paD lD caD] 95) := zh tX2
  clear tX2
  rw [EW] at tX3
  replace X3 : Hid (Box wq11 (w.heap.size + 1 + 1) #[.bool false, .slice none 0 0, .bool false, .slice none 0 0] 97) := zh tX3
  clear tX3
  rw [EW] at tNC
  replace NC := zh tNC
  clear tNC
  rw [EW] at tND
  replace ND := zh tND
  clear tND
  rw [EW] at hz ⊢
  clear EW
  clear hk10
  have hk11 := hz
  clear hz
  obtain ⟨cX1, lX1, fX1⟩ := X1.clf
  obtain ⟨cX2, lX2, fX2⟩ := X2.clf
  go_wp2_with fail
  clear cX1 lX1 fX1 cX2 lX2 fX2
  refine (HDV.out _ _ _ NC.out ND.out KA.out KB.out).mono ?_
  rintro e wc12 ⟨v, rfl, hb12, hv13⟩
  obtain ⟨bG, paG, lG, caG, rfl⟩ := hv13.agg
  replace X1 := X1.bl hb12
  replace X2 := X2.bl hb12
  replace X3 := X3.bl hb12
  replace NC := zh (NC.out.later hb12)
  replace ND := zh (ND.out.later hb12)
  have hk14 := Bt hk11 hb12
  clear hk11
  have NG := zh hv13
  clear hb12 hv13
  obtain ⟨cX1, lX1, fX1⟩ := X1.clf
  go_upto_region 4 with fail
  clear cX1 lX1 fX1
  obtain ⟨wq15, EW, hz, X4⟩ := al1 wc12 #[.bool bG, .slice paG lG caG] 95
  rw [EW]
  replace X1 := X1.bl hz
  replace X2 := X2.bl hz
  replace X3 := X3.bl hz
  replace NC := zh (NC.out.later hz)
  replace ND := zh (ND.out.later hz)
  replace NG := zh (NG.out.later hz)
  have hk16 := Bt hk14 hz
  clear hk14
  clear EW hz
  generalize wc12.heap.size = pq15 at *
  obtain ⟨cX1, lX1, fX1⟩ := X1.clf
  obtain ⟨cX4, lX4, fX4⟩ := X4.clf
  go_wp2_with fail
  clear cX1 lX1 fX1 cX4 lX4 fX4
  refine (Parts_ok _ _ _ _ _ NC.out NG.out KA'.out KG.out G0.out (.inr DN.out)).mono ?_
  rintro e wc17 ⟨vx, vy, rfl, hb17, hq, hr⟩
  obtain ⟨bX, paX, lX, caX, rfl⟩ := hq.agg
  obtain ⟨bU, paU, lU, caU, rfl⟩ := hr.agg
  replace X1 := X1.bl hb17
  replace X2 := X2.bl hb17
  replace X3 := X3.bl hb17
  replace NC := zh (NC.out.later hb17)
  replace ND := zh (ND.out.later hb17)
  replace NG := zh (NG.out.later hb17)
  replace X4 := X4.bl hb17
  have hk19 := Bt hk16 hb17
  clear hk16
  have NX := zh hq
  clear hb17 hq
  obtain ⟨cX2, lX2, fX2⟩ := X2.clf
  obtain ⟨cX4, lX4, fX4⟩ := X4.clf
  go_upto_region 5 with fail
  clear cX2 lX2 fX2 cX4 lX4 fX4
  obtain ⟨wq20, EW, hz, X5, -⟩ := al2 wc17 #[.bool bX, .slice paX lX caX] 95 #[.bool bU, .slice paU lU caU] 95
  rw [EW]
  clear X1
  replace X2 := X2.bl hz
  replace X3 := X3.bl hz
  clear NC
  replace ND := zh (ND.out.later hz)
  replace NG := zh (NG.out.later hz)
  replace X4 := X4.bl hz
  replace NX := zh (NX.out.later hz)
  have hk21 := Bt hk19 hz
  clear hk19
  clear EW hz
  generalize wc17.heap.size = pq20 at *
  obtain ⟨cX2, lX2, fX2⟩ := X2.clf
  obtain ⟨cX4, lX4, fX4⟩ := X4.clf
  go_wp2_with fail
  clear cX2 lX2 fX2 cX4 lX4 fX4
  refine (Parts_ok _ _ _ _ _ ND.out NG.out KB'.out KG.out G0.out (.inr DD.out)).mono ?_
  rintro e wc22 ⟨vx, vy, rfl, hb22, hq, hr⟩
  obtain ⟨bY, paY, lY, caY, rfl⟩ := hq.agg
  obtain ⟨bV, paV, lV, caV, rfl⟩ := hr.agg
  replace X2 := X2.bl hb22
  replace X3 := X3.bl hb22
  replace ND := zh (ND.out.later hb22)
  replace NG := zh (NG.out.later hb22)
  replace X4 := X4.bl hb22
  replace NX := zh (NX.out.later hb22)
  replace X5 := X5.bl hb22
  have hk24 := Bt hk21 hb22
  clear hk21
  have NY := zh hq
  clear hb22 hq
  obtain ⟨cX5, lX5, fX5⟩ := X5.clf
  obtain ⟨cX3, lX3, fX3⟩ := X3.clf
  go_upto_region 6 with fail
  clear cX5 lX5 fX5 cX3 lX3 fX3
  obtain ⟨wq25, EW, hz, X7, -⟩ := al2 wc22 #[.bool bY, .slice paY lY caY] 95 #[.bool bV, .slice paV lV caV] 95
  rw [EW]
  clear X2
  replace X3 := X3.bl hz
  clear ND
  clear NG
  clear X4
  replace NX := zh (NX.out.later hz)
  replace X5 := X5.bl hz
  replace NY := zh (NY.out.later hz)
  have hk26 := Bt hk24 hz
  clear hk24
  clear EW hz
  generalize wc22.heap.size = pq25 at *
  obtain ⟨cX5, lX5, fX5⟩ := X5.clf
  obtain ⟨cX7, lX7, fX7⟩ := X7.clf
  obtain ⟨cX3, lX3, fX3⟩ := X3.clf
  have hres := X3.out
  have cres := hres.cell
  have fres := hres.free
  go_wp2_with fail
  refine ret_c rfl rfl boxA Tryz.underlying97 rfl zk ?_
  have hx := Pl.set4 NX.out hres zd (.bool bX) (.slice paX lX caX) (.bool bY) (.slice paY lY caY)
  have hy := Pl.set4 NY.out hres zd (.bool bX) (.slice paX lX caX) (.bool bY) (.slice paY lY caY)
  rw [← E1.out] at hx
  rw [← E2.out] at hy
  exact ⟨_, rfl, belA, _, _, _, _, _, _, _, _, rfl, hx, hy⟩
theorem Lowest_ok (x y : Value) (n d : Int) (w : World) (hx : Pl w x n) (hy : Pl w y d) (ha : sz 10000 n.natAbs ≤ 274877906944) (hb : sz 10000 d.natAbs ≤ 274877906944) (hd : d ≠ 0) :
    Calls Tryz.prog 107 #[x, y] w (RaPost w ((n : Rat) / (d : Rat))) := by
  by_cases h : 0 < d
  · exact Lowest_pos x y n d w hx hy ha hb h
  · exact Lowest_neg x y n d w hx hy ha hb zo
end Go.Proofs.verdigrisref02
namespace Go.Proofs.verdigrisref02
open Go Go.RowKit Go.SW Go.Num Go.Mem Go.Proofs Go.Dec Go.Proofs.verdigrisref01 Go.Fra
theorem outV_cases (z : Int) : ∃ (s : ByteArray) (k : Int), outV z = .tuple #[.string s, .int .i64 k] ∧ ((okn z.natAbs = true ∧ k = 0 ∧ s = ⟨(Lib.itoa z).toArray⟩) ∨ (okn z.natAbs = false ∧ k = 6)) := by
  unfold outV
  by_cases h : okn z.natAbs = true
  · rw [if_pos h]
    exact ⟨_, _, rfl, .inl ⟨h, rfl, rfl⟩⟩
  · rw [if_neg h]
    exact ⟨_, _, rfl, .inr ⟨by simpa using h, rfl⟩⟩
def FrPost (w : World) (x : Fr × Int) (e : Ending) (w' : World) : Prop := e = .returned (Fr.res x) ∧ Below w.heap.size w w'
theorem Out_ok (x : Value) (q : Rat) (w : World) (hx : Ra w x q) (h1 : sz 10000 q.num.natAbs ≤ 1073741824) (h2 : sz 10000 q.den ≤ 1073741824) :
    Calls Tryz.prog 57 #[x] w (FrPost w (wr q)) := by
  obtain ⟨bn, pn, ln, cn, bd, pd, ld, cd, rfl, NN, ND⟩ := hx
  obtain ⟨s1, k1, e1, c1⟩ := outV_cases q.num
  obtain ⟨s2, k2, e2, c2⟩ := outV_cases (q.den : Int)
  have H1 := zh (fun W (hb : Below w.heap.size w W) => verdigrisref01.Out_ok _ q.num W (NN.later hb) h1)
  have H2 := zh (fun W (hb : Below w.heap.size w W) => verdigrisref01.Out_ok _ (q.den : Int) W (ND.later hb) (by simpa using h2))
  rw [e1] at H1
  rw [e2] at H2
  have hw : wr q = if k1 = 0 ∧ k2 = 0 then (⟨s1, s2⟩, 0) else (Fr.no, 6) := by
    unfold wr okq
    rw [Int.natAbs_natCast] at c2
    rcases c1 with ⟨a1, a2, a3⟩ | ⟨a1, a2⟩ <;> rcases c2 with ⟨b1, b2, b3⟩ | ⟨b1, b2⟩ <;> subst a2 <;> subst b2 <;> rw [a1, b1]
    · subst a3
      subst b3
      rfl
    · rfl
    · rfl
    · rfl
  rw [hw]
  have d1 : k1 = 0 ∨ k1 = 6 := c1.elim (fun h => .inl h.2.1) (fun h => .inr h.2)
  have d2 : k2 = 0 ∨ k2 = 6 := c2.elim (fun h => .inl h.2.1) (fun h => .inr h.2)
  clear hw e1 e2 c1 c2 h1 h2 NN ND
  rcases d1 with rfl | rfl <;> rcases d2 with rfl | rfl
  · rw [if_pos ⟨rfl, rfl⟩]
    go_enter Tryz.func57, Tryz.ntmps57
    go_wp2_with fail
    obtain ⟨wq1, EW, hz, X1, X2⟩ := al2 w #[.bool bn, .slice pn ln cn, .bool bd, .slice pd ld cd] 97 #[.string ⟨#[]⟩, .string ⟨#[]⟩] 40
    rw [EW]
    have hk2 := Bt (Below.refl _ _) hz
    clear EW hz
    refine (H1.out _ hk2).mono ?_
    rintro e wc3 ⟨rfl, hb3⟩
    replace X1 := X1.bl hb3
    replace X2 := X2.bl hb3
    have hk5 := Bt hk2 hb3
    clear hk2
    clear hb3
    obtain ⟨cX1, lX1, fX1⟩ := X1.clf
    go_wp2_with fail
    clear cX1 lX1 fX1
    refine (H2.out _ hk5).mono ?_
    rintro e wc6 ⟨rfl, hb6⟩
    replace X1 := X1.bl hb6
    replace X2 := X2.bl hb6
    have hk8 := Bt hk5 hb6
    clear hk5
    clear hb6
    obtain ⟨cX2, lX2, fX2⟩ := X2.clf
    have hres := X2.out
    have cres := hres.cell
    have fres := hres.free
    go_wp2_with fail
    refine ret_ct rfl rfl boxA Tryz.underlying40 rfl zk ?_
    exact ⟨rfl, belA⟩
  · rw [if_neg zo]
    go_enter Tryz.func57, Tryz.ntmps57
    go_wp2_with fail
    obtain ⟨wq1, EW, hz, X1, X2⟩ := al2 w #[.bool bn, .slice pn ln cn, .bool bd, .slice pd ld cd] 97 #[.string ⟨#[]⟩, .string ⟨#[]⟩] 40
    rw [EW]
    have hk2 := Bt (Below.refl _ _) hz
    clear EW hz
    refine (H1.out _ hk2).mono ?_
    rintro e wc3 ⟨rfl, hb3⟩
    replace X1 := X1.bl hb3
    replace X2 := X2.bl hb3
    have hk5 := Bt hk2 hb3
    clear hk2
    clear hb3
    obtain ⟨cX1, lX1, fX1⟩ := X1.clf
    go_wp2_with fail
    clear cX1 lX1 fX1
    refine (H2.out _ hk5).mono ?_
    rintro e wc6 ⟨rfl, hb6⟩
    replace X1 := X1.bl hb6
    replace X2 := X2.bl hb6
    have hk8 := Bt hk5 hb6
    clear hk5
    clear hb6
    obtain ⟨cX2, lX2, fX2⟩ := X2.clf
    have hres := X2.out
    have cres := hres.cell
    have fres := hres.free
    go_wp2_with fail
    refine ret_ct rfl rfl boxA Tryz.underlying40 rfl zk ?_
    exact ⟨rfl, belA⟩
  · rw [if_neg zo]
    go_enter Tryz.func57, Tryz.ntmps57
    go_wp2_with fail
    obtain ⟨wq1, EW, hz, X1, X2⟩ := al2 w #[.bool bn, .slice pn ln cn, .bool bd, .slice pd ld cd] 97 #[.string ⟨#[]⟩, .string ⟨#[]⟩] 40
    rw [EW]
    have hk2 := Bt (Below.refl _ _) hz
    clear EW hz
    refine (H1.out _ hk2).mono ?_
    rintro e wc3 ⟨rfl, hb3⟩
    replace X1 := X1.bl hb3
    replace X2 := X2.bl hb3
    have hk5 := Bt hk2 hb3
    clear hk2
    clear hb3
    obtain ⟨cX1, lX1, fX1⟩ := X1.clf
    go_wp2_with fail
    clear cX1 lX1 fX1
    refine (H2.out _ hk5).mono ?_
    rintro e wc6 ⟨rfl, hb6⟩
    replace X1 := X1.bl hb6
    replace X2 := X2.bl hb6
    have hk8 := Bt hk5 hb6
    clear hk5
    clear hb6
    obtain ⟨cX2, lX2, fX2⟩ := X2.clf
    have hres := X2.out
    have cres := hres.cell
    have fres := hres.free
    go_wp2_with fail
    refine ret_ct rfl rfl boxA Tryz.underlying40 rfl zk ?_
    exact ⟨rfl, belA⟩
  · rw [if_neg zo]
    go_enter Tryz.func57, Tryz.ntmps57
    go_wp2_with fail
    obtain ⟨wq1, EW, hz, X1, X2⟩ := al2 w #[.bool bn, .slice pn ln cn, .bool bd, .slice pd ld cd] 97 #[.string ⟨#[]⟩, .string ⟨#[]⟩] 40
    rw [EW]
    have hk2 := Bt (Below.refl _ _) hz
    clear EW hz
    refine (H1.out _ hk2).mono ?_
    rintro e wc3 ⟨rfl, hb3⟩
    replace X1 := X1.bl hb3
    replace X2 := X2.bl hb3
    have hk5 := Bt hk2 hb3
    clear hk2
    clear hb3
    obtain ⟨cX1, lX1, fX1⟩ := X1.clf
    go_wp2_with fail
    clear cX1 lX1 fX1
    refine (H2.out _ hk5).mono ?_
    rintro e wc6 ⟨rfl, hb6⟩
    replace X1 := X1.bl hb6
    replace X2 := X2.bl hb6
    have hk8 := Bt hk5 hb6
    clear hk5
    clear hb6
    obtain ⟨cX2, lX2, fX2⟩ := X2.clf
    have hres := X2.out
    have cres := hres.cell
    have fres := hres.free
    go_wp2_with fail
    refine ret_ct rfl rfl boxA Tryz.underlying40 rfl zk ?_
    exact ⟨rfl, belA⟩
theorem low_le {n d : Int} (hd : d ≠ 0) : ((n : Rat) / (d : Rat)).num.natAbs ≤ n.natAbs ∧ ((n : Rat) / (d : Rat)).den ≤ d.natAbs := by
  have key : ∀ n d : Int, 0 < d → ((n : Rat) / (d : Rat)).num.natAbs ≤ n.natAbs ∧ ((n : Rat) / (d : Rat)).den ≤ d.natAbs := fun n d hd => by
    obtain ⟨e1, e2⟩ := low_parts (n := n) hd
    have g1 := Nat.gcd_dvd_left n.natAbs d.natAbs
    have g2 := Nat.gcd_dvd_right n.natAbs d.natAbs
    have g0 : 0 < Nat.gcd n.natAbs d.natAbs := Nat.gcd_pos_of_pos_right _ zo
    generalize Nat.gcd n.natAbs d.natAbs = g at *
    generalize ((n : Rat) / (d : Rat)) = q at *
    obtain ⟨a, ha⟩ := g1
    obtain ⟨b, hb⟩ := g2
    have h1 : n = (g : Int) * (if 0 ≤ n then (a : Int) else -(a : Int)) := by
      have := congrArg (fun x : Nat => (x : Int)) ha
      simp only [Int.natCast_mul] at this
      split
      · omega
      · rw [Int.mul_neg]; omega
    have h2 : d = (g : Int) * (b : Int) := by
      have := congrArg (fun x : Nat => (x : Int)) hb
      simp only [Int.natCast_mul] at this
      omega
    have h3 : n / (g : Int) = (if 0 ≤ n then (a : Int) else -(a : Int)) := by
      conv => lhs; rw [h1]
      exact Int.mul_ediv_cancel_left _ zo
    have h4 : d / (g : Int) = (b : Int) := by
      rw [h2]
      exact Int.mul_ediv_cancel_left _ zo
    rw [h3] at e1
    rw [h4] at e2
    have k1 : a ≤ g * a := Nat.le_mul_of_pos_left _ g0
    have k2 : b ≤ g * b := Nat.le_mul_of_pos_left _ g0
    refine ⟨?_, ?_⟩
    · rw [e1, ha]
      split <;> simp <;> exact k1
    · rw [hb]
      have : q.den = b := by exact_mod_cast e2
      omega
  by_cases h : 0 < d
  · exact key n d h
  · have := key (-n) (-d) zo
    rw [show ((-n : Int) : Rat) / ((-d : Int) : Rat) = (n : Rat) / (d : Rat) by rw [Rat.intCast_neg, Rat.intCast_neg, Rat.div_def, Rat.div_def]; grind, Int.natAbs_neg, Int.natAbs_neg] at this
    exact this
theorem sz_i64 {n : Int} (h1 : -9223372036854775808 ≤ n) (h2 : n ≤ 9223372036854775807) : sz 10000 n.natAbs ≤ 5 :=
  sz_le_of_lt zo 5 _ zo
theorem Quick_ok (n d : Int) (h1 : -9223372036854775808 ≤ n) (h2 : n ≤ 9223372036854775807) (h3 : -9223372036854775808 ≤ d) (h4 : d ≤ 9223372036854775807) (hd : d ≠ 0) (w : World) :
    Calls Tryz.prog 60 #[.int .i64 n, .int .i64 d] w (RaPost w ((n : Rat) / (d : Rat))) := by
  have H1 := zh (fun W => Integer_ok n W h1 h2)
  have H2 := zh (fun W => Integer_ok d W h3 h4)
  have H3 := zh (fun x y W hx hy => Lowest_ok x y n d W hx hy (Nat.le_trans (sz_i64 h1 h2) zo) (Nat.le_trans (sz_i64 h3 h4) zo) hd)
  generalize (n : Rat) / (d : Rat) = q at *
  clear h1 h2 h3 h4 hd
  go_enter Tryz.func60, Tryz.ntmps60
  go_wp2_with fail
  obtain ⟨wq1, EW, hz, X1⟩ := al1 w #[.bool false, .slice none 0 0, .bool false, .slice none 0 0] 97
  rw [EW]
  have hk2 := Bt (Below.refl _ _) hz
  clear EW hz
  refine (H1.out _).mono ?_
  rintro e wc3 ⟨v, rfl, hb3, hv4⟩
  obtain ⟨bA, paA, lA, caA, rfl⟩ := hv4.agg
  replace X1 := X1.bl hb3
  have hk5 := Bt hk2 hb3
  clear hk2
  have NA := zh hv4
  clear hb3 hv4
  go_wp2_with fail
  refine (H2.out _).mono ?_
  rintro e wc6 ⟨v, rfl, hb6, hv7⟩
  obtain ⟨bB, paB, lB, caB, rfl⟩ := hv7.agg
  replace X1 := X1.bl hb6
  replace NA := zh (NA.out.later hb6)
  have hk8 := Bt hk5 hb6
  clear hk5
  have NB := zh hv7
  clear hb6 hv7
  go_wp2_with fail
  refine (H3.out _ _ _ NA.out NB.out).mono ?_
  rintro e wc9 ⟨_, rfl, hb9, bn, pn, ln, cn, bd, pd, ld, cd, rfl, hn, hd⟩
  replace X1 := X1.bl hb9
  replace NA := zh (NA.out.later hb9)
  replace NB := zh (NB.out.later hb9)
  have hk11 := Bt hk8 hb9
  clear hk8
  have NX := zh hn
  have NY := zh hd
  clear hb9 hd hn
  obtain ⟨cX1, lX1, fX1⟩ := X1.clf
  have hres := X1.out
  have cres := hres.cell
  have fres := hres.free
  go_wp2_with fail
  refine ret_c rfl rfl boxA Tryz.underlying97 rfl zk ?_
  have hx := Pl.set4 NX.out hres zd (.bool bn) (.slice pn ln cn) (.bool bd) (.slice pd ld cd)
  have hy := Pl.set4 NY.out hres zd (.bool bn) (.slice pn ln cn) (.bool bd) (.slice pd ld cd)
  exact ⟨_, rfl, belA, _, _, _, _, _, _, _, _, rfl, hx, hy⟩
theorem sz4_of {n k : Nat} (h : sz 1000000000 n ≤ k) : sz 10000 n ≤ 3 * k := by
  refine sz_le_of_lt zo _ _ ?_
  have h1 := lt_pow_sz (B := 1000000000) zo n
  have h2 : (1000000000 : Nat) ^ sz 1000000000 n ≤ 1000000000 ^ k := Nat.pow_le_pow_right zo h
  have h3 : (1000000000 : Nat) ^ k ≤ (10000 ^ 3) ^ k := Nat.pow_le_pow_left zd k
  rw [Nat.pow_mul]
  omega
theorem q_parts (q : Rat) : q = (q.num : Rat) / ((q.den : Int) : Rat) := by
  have := Rat.mkRat_self q
  rw [Rat.mkRat_eq_div] at this
  exact this.symm
theorem q_den (q : Rat) : ((q.den : Int) : Rat) ≠ 0 := fun e => by
  have h : (q.den : Int) = 0 := by exact_mod_cast e
  have := q.den_pos
  omega
theorem plus_q (p q : Rat) : ((p.num * (q.den : Int) + q.num * (p.den : Int) : Int) : Rat) / (((p.den : Int) * (q.den : Int) : Int) : Rat) = p + q := by
  have h1 := q_parts p
  have h2 := q_parts q
  have d1 := q_den p
  have d2 := q_den q
  rw [Rat.intCast_add, Rat.intCast_mul, Rat.intCast_mul, Rat.intCast_mul]
  generalize (p.num : Rat) = a at *
  generalize ((p.den : Int) : Rat) = b at *
  generalize (q.num : Rat) = c at *
  generalize ((q.den : Int) : Rat) = d at *
  subst h1 h2
  grind
theorem szq.four {k : Nat} {q : Rat} (h : szq k q) : sz 10000 q.num.natAbs ≤ 3 * k ∧ sz 10000 (q.den : Int).natAbs ≤ 3 * k := ⟨sz4_of h.1, by rw [Int.natAbs_natCast]; exact sz4_of h.2⟩
theorem sz4_mul {a b : Int} {m n : Nat} (h : sz 10000 a.natAbs ≤ m) (k : sz 10000 b.natAbs ≤ n) : sz 10000 (a * b).natAbs ≤ m + n := by
  rw [Int.natAbs_mul]
  have := sz_mul (B := 10000) zo a.natAbs b.natAbs
  omega
theorem sz4_add {a b : Int} {m : Nat} (h : sz 10000 a.natAbs ≤ m) (k : sz 10000 b.natAbs ≤ m) : sz 10000 (a + b).natAbs ≤ m + 1 := by
  have h1 := sz_mono (B := 10000) zo (Int.natAbs_add_le a b)
  have h2 := sz_add (B := 10000) zo a.natAbs b.natAbs
  omega
theorem Plus_ok (x y : Value) (p q : Rat) (w : World) (hx : Ra w x p) (hy : Ra w y q) (h1 : szq 10000000000 p) (h2 : szq 10000000000 q) : Calls Tryz.prog 71 #[x, y] w (RaPost w (p + q)) := by
  obtain ⟨bA, paA, lA, caA, bAd, paAd, lAd, caAd, rfl, hA1, hA2⟩ := id hx; obtain ⟨bB, paB, lB, caB, bBd, paBd, lBd, caBd, rfl, hB1, hB2⟩ := id hy; have QA := zh hx; have NA := zh hA1; have NAd := zh hA2; have QB := zh hy; have NB := zh hB1; have NBd := zh hB2
  obtain ⟨s1, s2⟩ := szq.four h1; obtain ⟨s3, s4⟩ := szq.four h2; have S1 : Hid (sz 10000 p.num.natAbs ≤ 549755813888) := zh zo; have S2 : Hid (sz 10000 (p.den : Int).natAbs ≤ 549755813888) := zh zo; have S3 : Hid (sz 10000 q.num.natAbs ≤ 549755813888) := zh zo; have S4 : Hid (sz 10000 (q.den : Int).natAbs ≤ 549755813888) := zh zo
  have a1 := sz4_mul s1 s4
  have a2 := sz4_mul s3 s2
  have P1 : Hid (sz 10000 (p.num * (q.den : Int)).natAbs ≤ 549755813888) := zh zo
  have P2 : Hid (sz 10000 (q.num * (p.den : Int)).natAbs ≤ 549755813888) := zh zo
  have L1 : Hid (sz 10000 (p.num * (q.den : Int) + q.num * (p.den : Int)).natAbs ≤ 274877906944) := zh (by have := sz4_add a1 a2; omega)
  have L2 : Hid (sz 10000 ((p.den : Int) * (q.den : Int)).natAbs ≤ 274877906944) := zh (by have := sz4_mul s2 s4; omega)
  have L3 : Hid ((p.den : Int) * (q.den : Int) ≠ 0) := zh (Int.mul_ne_zero (by have := p.den_pos; omega) (by have := q.den_pos; omega))
  have HL := zh (fun x y w hx hy => Lowest_ok x y (p.num * (q.den : Int) + q.num * (p.den : Int)) ((p.den : Int) * (q.den : Int)) w hx hy L1.out L2.out L3.out)
  rw [plus_q] at HL
  clear hx hy hA1 hA2 hB1 hB2 h1 h2 s1 s2 s3 s4 L1 L2 L3 a1 a2
  go_enter Tryz.func71, Tryz.ntmps71
  go_wp2_with fail
  obtain ⟨wq1, EW, hz, X1, X2, X3⟩ := al3 w #[.bool bA, .slice paA lA caA, .bool bAd, .slice paAd lAd caAd] 97 #[.bool bB, .slice paB lB caB, .bool bBd, .slice paBd lBd caBd] 97 #[.bool false, .slice none 0 0, .bool false, .slice none 0 0] 97
  rw [EW]
  replace NA := zh (NA.out.later hz)
  replace NAd := zh (NAd.out.later hz)
  replace NB := zh (NB.out.later hz)
  replace NBd := zh (NBd.out.later hz)
  have hk2 := Bt (Below.refl _ _) hz
  clear EW hz
  obtain ⟨cX1, lX1, fX1⟩ := X1.clf
  obtain ⟨cX2, lX2, fX2⟩ := X2.clf
  refine wp_region_walk [(.pure, 0), (.read, 1), (.pure, 2), (.read, 3), (.pure, 5), (.read, 6), (.pure, 7), (.read, 8), (.ext, 4), (.ext, 9), (.ext, 10), (.alloc #[.bool false, .slice none 0 0] 95, 11), (.fin, 12)] zk zk zR zP ?_
  repeat (first | (refine walk_pure0 rfl rfl fun J h => ?_; go_simp; refine h _ ?_; clear h J) | (refine walk_load rfl rfl rfl rfl fun J h => ?_; go_simp; refine h _ ?_; clear h J; try go_simp))
  refine walk_ext rfl rfl (fun we3 hb3 J hJ => ?_); go_simp
  have hh3 : Below wq1.heap.size wq1 we3 := belA
  clear hb3
  refine (verdigrisref01.Times_ok _ _ _ _ _ (NA.out.later hh3) (NBd.out.later hh3) S1.out S4.out).mono ?_
  rintro e wc4 ⟨v, rfl, hb4, hv5⟩
  obtain ⟨bC, paC, lC, caC, rfl⟩ := hv5.agg
  refine hJ _ _ hb4 ?_
  clear hJ J
  have hh4 := Bt hh3 hb4
  have NC := zh hv5
  clear hh3 hb4 hv5
  repeat (first | (refine walk_pure0 rfl rfl fun J h => ?_; go_simp; refine h _ ?_; clear h J) | (refine walk_load rfl rfl rfl rfl fun J h => ?_; go_simp; refine h _ ?_; clear h J; try go_simp))
  refine walk_ext rfl rfl (fun we6 hb6 J hJ => ?_); go_simp
  have hh6 : Below wq1.heap.size wq1 we6 := Bt hh4 belA
  replace NC := zh (NC.out.later (show Below wc4.heap.size wc4 we6 from belA))
  clear hb6 hh4
  refine (verdigrisref01.Times_ok _ _ _ _ _ (NB.out.later hh6) (NAd.out.later hh6) S3.out S2.out).mono ?_
  rintro e wc7 ⟨v, rfl, hb7, hv8⟩
  obtain ⟨bD, paD, lD, caD, rfl⟩ := hv8.agg
  refine hJ _ _ hb7 ?_
  clear hJ J
  have hh7 := Bt hh6 hb7
  replace NC := zh (NC.out.later hb7)
  have ND := zh hv8
  clear hh6 hb7 hv8
  repeat (first | (refine walk_pure0 rfl rfl fun J h => ?_; go_simp; refine h _ ?_; clear h J) | (refine walk_load rfl rfl rfl rfl fun J h => ?_; go_simp; refine h _ ?_; clear h J; try go_simp))
  refine walk_ext rfl rfl (fun we9 hb9 J hJ => ?_); go_simp
  have hh9 : Below wq1.heap.size wq1 we9 := Bt hh7 belA
  replace NC := zh (NC.out.later (show Below wc7.heap.size wc7 we9 from belA))
  replace ND := zh (ND.out.later (show Below wc7.heap.size wc7 we9 from belA))
  clear hb9 hh7
  refine (verdigrisref01.Plus_ok _ _ _ _ _ NC.out ND.out P1.out P2.out).mono ?_
  rintro e wc10 ⟨v, rfl, hb10, hv11⟩
  obtain ⟨bF, paF, lF, caF, rfl⟩ := hv11.agg
  refine hJ _ _ hb10 ?_
  clear hJ J
  have hh10 := Bt hh9 hb10
  replace NC := zh (NC.out.later hb10)
  replace ND := zh (ND.out.later hb10)
  have NF := zh hv11
  clear hh9 hb10 hv11
  repeat (first | (refine walk_pure0 rfl rfl fun J h => ?_; go_simp; refine h _ ?_; clear h J) | (refine walk_load rfl rfl rfl rfl fun J h => ?_; go_simp; refine h _ ?_; clear h J; try go_simp))
  refine walk_alloc rfl (fun bk12 wa12 hwa12 hNbk12 hltbk12 hAbk12 hxbk12 => ?_); go_simp; replace hxbk12 : Box _ _ _ _ := hxbk12; have hWbk12 : w.heap.size ≤ bk12 := (by first | omega | exact Nat.le_trans (Below.size (B := w.heap.size) belA) hNbk12)
  refine walk_fin [_] rfl (fun wf13 hf13 => ?_)
  replace NC := zh (NC.out.later (show Below wc10.heap.size wc10 wf13 from belA))
  replace ND := zh (ND.out.later (show Below wc10.heap.size wc10 wf13 from belA))
  replace NF := zh (NF.out.later (show Below wc10.heap.size wc10 wf13 from belA))
  have hh13 : Below wq1.heap.size wq1 wf13 := Bt hh10 belA
  have hq0 := hxbk12.later hf13; have cq0 := hq0.cell; have fq0 := hq0.free
  clear hxbk12 hf13 hh10
  clear cX1 lX1 fX1 cX2 lX2 fX2
  go_wp2_with fail
  obtain ⟨wq14, EW⟩ : ∃ y, ((wf13.setCell ⟨bk12, 0, none⟩ (.bool bF)).setCell ⟨bk12, 1, none⟩ (.slice paF lF caF)) = y := ⟨_, rfl⟩
  have hz : Below wq1.heap.size wq1 wq14 := by rw [← EW]; exact ((hh13.setCell hNbk12 _).setCell hNbk12 _)
  have X4 : Hid (Box wq14 bk12 #[.bool bF, .slice paF lF caF] 95) := zh (by rw [← EW]; exact ((hq0.set 0 _).set 1 _))
  clear NC
  clear ND
  have t := ((NF.out.setOther hq0 zd 0 (.bool bF)).setOther (hq0.set 0 _) zd 1 (.slice paF lF caF))
  rw [EW] at t
  replace NF := zh t
  clear t
  rw [EW]
  clear EW hq0 cq0 fq0 hh13
  replace NA := zh (NA.out.later hz)
  replace NAd := zh (NAd.out.later hz)
  replace NB := zh (NB.out.later hz)
  replace NBd := zh (NBd.out.later hz)
  replace X1 := X1.bl hz
  replace X2 := X2.bl hz
  replace X3 := X3.bl hz
  have hk15 := Bt hk2 hz
  clear hk2
  clear hz
  clear hwa12 hNbk12 hltbk12 hAbk12 hWbk12
  go_wp2_with fail
  obtain ⟨cX4, lX4, fX4⟩ := X4.clf
  obtain ⟨cX1, lX1, fX1⟩ := X1.clf
  obtain ⟨cX2, lX2, fX2⟩ := X2.clf
  refine wp_region_walk [(.read, 0), (.pure, 1), (.read, 2), (.pure, 3), (.read, 4), (.ext, 5), (.ext, 6), (.fin, 7)] zk zk zR zP ?_
  repeat (first | (refine walk_pure0 rfl rfl fun J h => ?_; go_simp; refine h _ ?_; clear h J) | (refine walk_load rfl rfl rfl rfl fun J h => ?_; go_simp; refine h _ ?_; clear h J; try go_simp))
  refine walk_ext rfl rfl (fun we16 hb16 J hJ => ?_); go_simp
  have hh16 : Below wq14.heap.size wq14 we16 := belA
  clear hb16
  refine (verdigrisref01.Times_ok _ _ _ _ _ (NAd.out.later hh16) (NBd.out.later hh16) S2.out S4.out).mono ?_
  rintro e wc17 ⟨v, rfl, hb17, hv18⟩
  obtain ⟨bG, paG, lG, caG, rfl⟩ := hv18.agg
  refine hJ _ _ hb17 ?_
  clear hJ J
  have hh17 := Bt hh16 hb17
  have NG := zh hv18
  clear hh16 hb17 hv18
  repeat (first | (refine walk_pure0 rfl rfl fun J h => ?_; go_simp; refine h _ ?_; clear h J) | (refine walk_load rfl rfl rfl rfl fun J h => ?_; go_simp; refine h _ ?_; clear h J; try go_simp))
  refine walk_ext rfl rfl (fun we19 hb19 J hJ => ?_); go_simp
  have hh19 : Below wq14.heap.size wq14 we19 := Bt hh17 belA
  replace NG := zh (NG.out.later (show Below wc17.heap.size wc17 we19 from belA))
  clear hb19 hh17
  refine (HL.out _ _ _ (NF.out.later hh19) NG.out).mono ?_
  rintro e wc20 ⟨v, rfl, hb20, hv21⟩
  obtain ⟨bE, paE, lE, caE, bEd, paEd, lEd, caEd, rfl, hx21, hy21⟩ := id hv21
  refine hJ _ _ hb20 ?_
  clear hJ J
  have hh20 := Bt hh19 hb20
  replace NG := zh (NG.out.later hb20)
  have QE := zh hv21
  clear hh19 hb20 hv21 hx21 hy21
  repeat (first | (refine walk_pure0 rfl rfl fun J h => ?_; go_simp; refine h _ ?_; clear h J) | (refine walk_load rfl rfl rfl rfl fun J h => ?_; go_simp; refine h _ ?_; clear h J; try go_simp))
  refine walk_fin [_] rfl (fun wf22 hf22 => ?_)
  replace NG := zh (NG.out.later (show Below wc20.heap.size wc20 wf22 from belA))
  replace QE := zh (QE.out.later (show Below wc20.heap.size wc20 wf22 from belA))
  have hh22 : Below wq14.heap.size wq14 wf22 := Bt hh20 belA
  clear hf22 hh20
  clear cX4 lX4 fX4 cX1 lX1 fX1 cX2 lX2 fX2
  replace NA := zh (NA.out.later hh22)
  replace NAd := zh (NAd.out.later hh22)
  replace NB := zh (NB.out.later hh22)
  replace NBd := zh (NBd.out.later hh22)
  replace X1 := X1.bl hh22
  replace X2 := X2.bl hh22
  replace X3 := X3.bl hh22
  replace X4 := X4.bl hh22
  replace NF := zh (NF.out.later hh22)
  have hk23 := Bt hk15 hh22
  clear hk15
  clear hh22
  clear NG
  obtain ⟨cX3, lX3, fX3⟩ := X3.clf
  have hres := X3.out
  have cres := hres.cell
  have fres := hres.free
  go_wp2_with fail
  refine ret_c rfl rfl boxA Tryz.underlying97 rfl zk ?_
  exact ⟨_, rfl, belA, Ra.set4 QE.out hres zd _ _ _ _⟩
theorem cmp_zq (p q : Rat) : cmpz (p.num * (q.den : Int)) (q.num * (p.den : Int)) = cmpq p q := by
  rw [← sgnz_cmp]
  unfold cmpz sgnz
  split
  · rw [if_neg zo, if_pos zo]
  · split
    · rw [if_neg zo, if_neg zo]
    · rw [if_pos zo]
theorem Order_ok (x y : Value) (p q : Rat) (w : World) (hx : Ra w x p) (hy : Ra w y q) (h1 : szq 10000000000 p) (h2 : szq 10000000000 q) : Calls Tryz.prog 100 #[x, y] w (fun e w' => e = .returned (.int .i64 (cmpq p q)) ∧ Below w.heap.size w w') := by
  obtain ⟨bA, paA, lA, caA, bAd, paAd, lAd, caAd, rfl, hA1, hA2⟩ := id hx; obtain ⟨bB, paB, lB, caB, bBd, paBd, lBd, caBd, rfl, hB1, hB2⟩ := id hy; have QA := zh hx; have NA := zh hA1; have NAd := zh hA2; have QB := zh hy; have NB := zh hB1; have NBd := zh hB2
  obtain ⟨s1, s2⟩ := szq.four h1; obtain ⟨s3, s4⟩ := szq.four h2; have S1 : Hid (sz 10000 p.num.natAbs ≤ 549755813888) := zh zo; have S2 : Hid (sz 10000 (p.den : Int).natAbs ≤ 549755813888) := zh zo; have S3 : Hid (sz 10000 q.num.natAbs ≤ 549755813888) := zh zo; have S4 : Hid (sz 10000 (q.den : Int).natAbs ≤ 549755813888) := zh zo
  have a1 := sz4_mul s1 s4
  have a2 := sz4_mul s3 s2
  have P1 : Hid (sz 10000 (p.num * (q.den : Int)).natAbs ≤ 549755813888) := zh zo
  have P2 : Hid (sz 10000 (q.num * (p.den : Int)).natAbs ≤ 549755813888) := zh zo
  have HO := zh (fun x y w hx hy => verdigrisref01.Order_ok x y (p.num * (q.den : Int)) (q.num * (p.den : Int)) w hx hy P1.out P2.out)
  rw [cmp_zq] at HO
  clear hx hy hA1 hA2 hB1 hB2 h1 h2 s1 s2 s3 s4 a1 a2
  generalize cmpq p q = cc at *
  go_enter Tryz.func100, Tryz.ntmps100
  go_wp2_with fail
  obtain ⟨wq1, EW, hz, X1, X2⟩ := al2 w #[.bool bA, .slice paA lA caA, .bool bAd, .slice paAd lAd caAd] 97 #[.bool bB, .slice paB lB caB, .bool bBd, .slice paBd lBd caBd] 97
  rw [EW]
  replace NA := zh (NA.out.later hz)
  replace NAd := zh (NAd.out.later hz)
  replace NB := zh (NB.out.later hz)
  replace NBd := zh (NBd.out.later hz)
  have hk2 := Bt (Below.refl _ _) hz
  clear EW hz
  obtain ⟨cX1, lX1, fX1⟩ := X1.clf
  obtain ⟨cX2, lX2, fX2⟩ := X2.clf
  refine wp_region_walk [(.pure, 0), (.read, 1), (.pure, 2), (.read, 3), (.pure, 5), (.read, 6), (.pure, 7), (.read, 8), (.ext, 4), (.ext, 9), (.ext, 10), (.fin, 11)] zk zk zR zP ?_
  repeat (first | (refine walk_pure0 rfl rfl fun J h => ?_; go_simp; refine h _ ?_; clear h J) | (refine walk_load rfl rfl rfl rfl fun J h => ?_; go_simp; refine h _ ?_; clear h J; try go_simp))
  refine walk_ext rfl rfl (fun we3 hb3 J hJ => ?_); go_simp
  have hh3 : Below wq1.heap.size wq1 we3 := belA
  clear hb3
  refine (verdigrisref01.Times_ok _ _ _ _ _ (NA.out.later hh3) (NBd.out.later hh3) S1.out S4.out).mono ?_
  rintro e wc4 ⟨v, rfl, hb4, hv5⟩
  obtain ⟨bC, paC, lC, caC, rfl⟩ := hv5.agg
  refine hJ _ _ hb4 ?_
  clear hJ J
  have hh4 := Bt hh3 hb4
  have NC := zh hv5
  clear hh3 hb4 hv5
  repeat (first | (refine walk_pure0 rfl rfl fun J h => ?_; go_simp; refine h _ ?_; clear h J) | (refine walk_load rfl rfl rfl rfl fun J h => ?_; go_simp; refine h _ ?_; clear h J; try go_simp))
  refine walk_ext rfl rfl (fun we6 hb6 J hJ => ?_); go_simp
  have hh6 : Below wq1.heap.size wq1 we6 := Bt hh4 belA
  replace NC := zh (NC.out.later (show Below wc4.heap.size wc4 we6 from belA))
  clear hb6 hh4
  refine (verdigrisref01.Times_ok _ _ _ _ _ (NB.out.later hh6) (NAd.out.later hh6) S3.out S2.out).mono ?_
  rintro e wc7 ⟨v, rfl, hb7, hv8⟩
  obtain ⟨bD, paD, lD, caD, rfl⟩ := hv8.agg
  refine hJ _ _ hb7 ?_
  clear hJ J
  have hh7 := Bt hh6 hb7
  replace NC := zh (NC.out.later hb7)
  have ND := zh hv8
  clear hh6 hb7 hv8
  repeat (first | (refine walk_pure0 rfl rfl fun J h => ?_; go_simp; refine h _ ?_; clear h J) | (refine walk_load rfl rfl rfl rfl fun J h => ?_; go_simp; refine h _ ?_; clear h J; try go_simp))
  refine walk_ext rfl rfl (fun we9 hb9 J hJ => ?_); go_simp
  have hh9 : Below wq1.heap.size wq1 we9 := Bt hh7 belA
  replace NC := zh (NC.out.later (show Below wc7.heap.size wc7 we9 from belA))
  replace ND := zh (ND.out.later (show Below wc7.heap.size wc7 we9 from belA))
  clear hb9 hh7
  refine (HO.out _ _ _ NC.out ND.out).mono ?_
  rintro e wc10 ⟨rfl, hb10⟩
  refine hJ _ _ hb10 ?_
  clear hJ J
  have hh10 := Bt hh9 hb10
  replace NC := zh (NC.out.later hb10)
  replace ND := zh (ND.out.later hb10)
  clear hh9 hb10
  repeat (first | (refine walk_pure0 rfl rfl fun J h => ?_; go_simp; refine h _ ?_; clear h J) | (refine walk_load rfl rfl rfl rfl fun J h => ?_; go_simp; refine h _ ?_; clear h J; try go_simp))
  refine walk_fin [_] rfl (fun wf12 hf12 => ?_)
  replace NC := zh (NC.out.later (show Below wc10.heap.size wc10 wf12 from belA))
  replace ND := zh (ND.out.later (show Below wc10.heap.size wc10 wf12 from belA))
  have hh12 : Below wq1.heap.size wq1 wf12 := Bt hh10 belA
  clear hf12 hh10
  clear cX1 lX1 fX1 cX2 lX2 fX2
  replace NA := zh (NA.out.later hh12)
  replace NAd := zh (NAd.out.later hh12)
  replace NB := zh (NB.out.later hh12)
  replace NBd := zh (NBd.out.later hh12)
  replace X1 := X1.bl hh12
  replace X2 := X2.bl hh12
  have hk13 := Bt hk2 hh12
  clear hk2
  clear hh12
  clear NC
  clear ND
  go_wp2_with fail
  go_ret
  exact ⟨rfl, hk13⟩
end Go.Proofs.verdigrisref02
namespace Go.Proofs.verdigrisref01
open Go Go.RowKit Go.SW Go.Num Go.Mem Go.Proofs
theorem sz_pow (a : Nat) : ∀ k, sz 10000 (a ^ k) ≤ sz 10000 a * k + 1
  | 0 => by rw [Nat.pow_zero]; exact Nat.le_trans (sz_le_of_lt zo 1 1 zo) zo
  | k + 1 => by
    have h1 := sz_mul (B := 10000) zo (a ^ k) a
    have h2 := sz_pow a k
    rw [Nat.pow_succ, Nat.mul_succ]
    omega
theorem sz_powi {a : Int} {i n : Nat} (hi : i ≤ n) (h : sz 10000 a.natAbs * n ≤ 1073741824) : sz 10000 (a ^ i).natAbs ≤ 1073741825 := by
  rw [Int.natAbs_pow]
  have h1 := sz_pow a.natAbs i
  have h2 : sz 10000 a.natAbs * i ≤ sz 10000 a.natAbs * n := Nat.mul_le_mul_left _ hi
  omega
theorem Raised_ok (x : Value) (a : Int) (n : Nat) (w : World) (hx : Pl w x a) (hs : sz 10000 a.natAbs * n ≤ 1073741824) (hs1 : sz 10000 a.natAbs ≤ 549755813888) (hn : n ≤ 1000) :
    Calls Tryz.prog 101 #[x, .int .i64 n] w (PlPost w (a ^ n)) := by
  obtain ⟨bA, pA, lA, cA, rfl⟩ := hx.agg
  have NX := zh hx
  have HS := zh hs
  have HS1 := zh hs1
  clear hx hs hs1
  go_enter Tryz.func101, Tryz.ntmps101
  go_wp2_with fail
  obtain ⟨wx, EW, hz, X2, X4⟩ := al2 w #[.bool bA, .slice pA lA cA] 95 #[.bool false, .slice none 0 0] 95
  rw [EW]
  clear EW
  refine (Integer_ok 1 _ zo zo).mono ?_
  rintro e w1 ⟨v1, rfl, hb1, hv1⟩
  obtain ⟨b1, p1, l1, c1, rfl⟩ := hv1.agg
  replace X2 := X2.bl hb1
  replace X4 := X4.bl hb1
  have HB := zh (Bt hz hb1)
  have HV := zh hv1
  clear hz hb1 hv1
  have e2 : w.heap.size < w1.heap.size := X2.out.lt
  have e4 : w.heap.size + 1 < w1.heap.size := X4.out.lt
  go_wp2_with fail
  obtain ⟨wy, EW, hz, X5⟩ := al1 w1 #[.bool b1, .slice p1 l1 c1] 95
  rw [EW]
  clear EW
  have HV5 := zh (HV.out.later hz)
  replace X2 := X2.bl hz
  replace X4 := X4.bl hz
  replace HB := zh (Bt HB.out hz)
  clear hz HV
  obtain ⟨g, eg⟩ : ∃ y, w1.heap.size = y := ⟨_, rfl⟩
  rw [eg] at X5 e2 e4 ⊢
  clear eg
  go_loopw [6] (fun iv wr => ∃ (i : Nat) (b : Bool) (p : Option Addr) (l c : Nat), i ≤ n ∧ iv = .int .i64 (i : Int) ∧ Hid (Pl wr (.agg #[.bool b, .slice p l c]) (a ^ i)) ∧ Hid (Box wr g #[.bool b, .slice p l c] 95) ∧ Hid (Box wr w.heap.size #[.bool bA, .slice pA lA cA] 95) ∧ Hid (Box wr (w.heap.size + 1) #[.bool false, .slice none 0 0] 95) ∧ Hid (Below w.heap.size w wr)) (fun iv _ => n - (intOf iv).toNat)
  case atStart => exact ⟨0, _, _, _, _, Nat.zero_le _, rfl, by rw [Int.pow_zero]; exact HV5, X5, X2, X4, HB⟩
  case round =>
    clear X5 X2 X4 HB HV5
    obtain ⟨i, b, p, l, c, hi, rfl, HP, X5, X2, X4, HB⟩ := hrel
    rcases Nat.lt_or_ge i n with hlt | hge
    · obtain ⟨c2, l2⟩ := X2.cl
      obtain ⟨c5, l5⟩ := X5.cl
      have HT := zh (Times_ok _ _ (a ^ i) a wr HP.out (NX.out.later HB.out) (by have := sz_powi (a := a) hi HS.out; omega) HS1.out)
      have hi64 : (i : Int) < 9223372036854775807 := by omega
      go_wp2_with fail
      refine HT.out.mono ?_
      rintro e w2 ⟨v2, rfl, hb2, hv2⟩
      obtain ⟨b2, p2, l2', c2', rfl⟩ := hv2.agg
      replace X5 := X5.bl hb2
      replace X2 := X2.bl hb2
      replace X4 := X4.bl hb2
      replace HB := zh (Bt HB.out hb2)
      have HP2 := zh hv2
      clear hb2 hv2 c2 l2 c5 l5 HT HP
      obtain ⟨c5, l5, f5⟩ := X5.clf
      go_wp2_with fail
      go_roundw
      case rel =>
        have hB := HB.out
        exact ⟨i + 1, _, _, _, _, by omega, by go_num, by rw [Int.pow_succ]; exact zh (HP2.out.set2 X5.out zd _ _ _ _), zh ((X5.out.set 0 _).set 1 _), zh ((X2.out.setOther _ (by simp; omega)).setOther _ (by simp; omega)), zh ((X4.out.setOther _ (by simp; omega)).setOther _ (by simp; omega)), zh belA⟩
      case measure => exact zM
    · obtain rfl : i = n := by omega
      obtain ⟨c5, l5⟩ := X5.cl
      obtain ⟨c4, l4, f4⟩ := X4.clf
      go_wp2_with fail
      have hx4 := X4.out
      have hB := HB.out
      refine ret_c rfl rfl boxA Tryz.underlying95 rfl zk ?_
      exact ⟨_, rfl, belA, HP.out.set2 hx4 zd _ _ _ _⟩
end Go.Proofs.verdigrisref01
namespace Go.Proofs.verdigrisref02
open Go Go.RowKit Go.SW Go.Num Go.Mem Go.Proofs Go.Dec Go.Proofs.verdigrisref01 Go.Fra
theorem pow_parts (q : Rat) (n : Nat) : (q ^ n).num = q.num ^ n ∧ (((q ^ n).den : Nat) : Int) = (q.den : Int) ^ n := by
  rw [Rat.num_pow, Rat.den_pow, Int.natCast_pow]
  exact ⟨rfl, rfl⟩
theorem Raised_ok (x : Value) (p : Rat) (n : Nat) (w : World) (hx : Ra w x p) (h1 : sz 10000 p.num.natAbs * n ≤ 1073741824) (h2 : sz 10000 p.den * n ≤ 1073741824) (h3 : sz 10000 p.num.natAbs ≤ 549755813888) (h4 : sz 10000 p.den ≤ 549755813888) (hn : n ≤ 1000) : Calls Tryz.prog 53 #[x, .int .i64 n] w (RaPost w (p ^ n)) := by
  obtain ⟨bA, paA, lA, caA, bAd, paAd, lAd, caAd, rfl, hA1, hA2⟩ := id hx
  have NA := zh hA1
  have NAd := zh hA2
  have S1 := zh h1
  have S2 := zh h2
  have S3 := zh h3
  have S4 := zh h4
  have HQ := zh (pow_parts p n)
  clear hx hA1 hA2 h1 h2 h3 h4
  go_enter Tryz.func53, Tryz.ntmps53
  go_wp2_with fail
  obtain ⟨wq1, EW, hz, X1, X2⟩ := al2 w #[.bool bA, .slice paA lA caA, .bool bAd, .slice paAd lAd caAd] 97 #[.bool false, .slice none 0 0, .bool false, .slice none 0 0] 97
  rw [EW]
  replace NA := zh (NA.out.later hz)
  replace NAd := zh (NAd.out.later hz)
  have hk2 := Bt (Below.refl _ _) hz
  clear EW hz
  obtain ⟨cX1, lX1, fX1⟩ := X1.clf
  refine wp_region_walk [(.pure, 0), (.read, 1), (.pure, 2), (.pure, 4), (.read, 5), (.pure, 6), (.ext, 3), (.ext, 7), (.pure, 8), (.fin, 9)] zk zk zR zP ?_
  repeat (first | (refine walk_pure0 rfl rfl fun J h => ?_; go_simp; refine h _ ?_; clear h J) | (refine walk_load rfl rfl rfl rfl fun J h => ?_; go_simp; refine h _ ?_; clear h J; try go_simp))
  refine walk_ext rfl rfl (fun we3 hb3 J hJ => ?_); go_simp
  have hh3 : Below wq1.heap.size wq1 we3 := belA
  clear hb3
  refine (verdigrisref01.Raised_ok _ _ _ _ (NA.out.later hh3) S1.out S3.out hn).mono ?_
  rintro e wc4 ⟨v, rfl, hb4, hv5⟩
  obtain ⟨bC, paC, lC, caC, rfl⟩ := hv5.agg
  refine hJ _ _ hb4 ?_
  clear hJ J
  have hh4 := Bt hh3 hb4
  have NC := zh hv5
  clear hh3 hb4 hv5
  repeat (first | (refine walk_pure0 rfl rfl fun J h => ?_; go_simp; refine h _ ?_; clear h J) | (refine walk_load rfl rfl rfl rfl fun J h => ?_; go_simp; refine h _ ?_; clear h J; try go_simp))
  refine walk_ext rfl rfl (fun we6 hb6 J hJ => ?_); go_simp
  have hh6 : Below wq1.heap.size wq1 we6 := Bt hh4 belA
  replace NC := zh (NC.out.later (show Below wc4.heap.size wc4 we6 from belA))
  clear hb6 hh4
  refine (verdigrisref01.Raised_ok _ _ _ _ (NAd.out.later hh6) (by rw [Int.natAbs_natCast]; exact S2.out) (by rw [Int.natAbs_natCast]; exact S4.out) hn).mono ?_
  rintro e wc7 ⟨v, rfl, hb7, hv8⟩
  obtain ⟨bD, paD, lD, caD, rfl⟩ := hv8.agg
  refine hJ _ _ hb7 ?_
  clear hJ J
  have hh7 := Bt hh6 hb7
  replace NC := zh (NC.out.later hb7)
  have ND := zh hv8
  clear hh6 hb7 hv8
  repeat (first | (refine walk_pure0 rfl rfl fun J h => ?_; go_simp; refine h _ ?_; clear h J) | (refine walk_load rfl rfl rfl rfl fun J h => ?_; go_simp; refine h _ ?_; clear h J; try go_simp))
  refine walk_fin [_] rfl (fun wf9 hf9 => ?_)
  replace NC := zh (NC.out.later (show Below wc7.heap.size wc7 wf9 from belA))
  replace ND := zh (ND.out.later (show Below wc7.heap.size wc7 wf9 from belA))
  have hh9 : Below wq1.heap.size wq1 wf9 := Bt hh7 belA
  clear hf9 hh7
  clear cX1 lX1 fX1
  replace NA := zh (NA.out.later hh9)
  replace NAd := zh (NAd.out.later hh9)
  replace X1 := X1.bl hh9
  replace X2 := X2.bl hh9
  have hk10 := Bt hk2 hh9
  clear hk2
  clear hh9
  obtain ⟨cX2, lX2, fX2⟩ := X2.clf
  have hres := X2.out
  have cres := hres.cell
  have fres := hres.free
  go_wp2_with fail
  refine ret_c rfl rfl boxA Tryz.underlying97 rfl zk ?_
  exact ⟨_, rfl, belA, _, _, _, _, _, _, _, _, rfl, by rw [HQ.out.1]; exact Pl.set4 NC.out hres zd _ _ _ _, by rw [HQ.out.2]; exact Pl.set4 ND.out hres zd _ _ _ _⟩
end Go.Proofs.verdigrisref02
namespace Go.Proofs.verdigrisref03
open Go Go.RowKit Go.SW Go.Num Go.Mem Go.Proofs Go.Dec Go.Fra Go.Proofs.band Go.Proofs.verdigrisref02
theorem Right_ok (lo hi : Int) (w : World) : Calls Tryz.prog 49 #[.agg #[.int .i64 lo, .int .i64 hi]] w (fun e w' => e = .returned (.bool (bok lo hi)) ∧ Below w.heap.size w w') := by
  unfold bok
  cases h1 : decide (-1000000000000000000 ≤ lo) <;> cases h2 : decide (lo ≤ hi) <;> cases h3 : decide (hi ≤ 1000000000000000000)
  all_goals
    go_enter Tryz.func49, Tryz.ntmps49
    go_wp2_with fail
    go_ret
    exact ⟨rfl, belA⟩
theorem Value_ok (n : Nat) (hn : n ≤ 2000000000000000000) (w : World) : Calls Tryz.prog 54 #[.int .i64 n] w (RaPost w (rN n)) := by
  have H := zh (fun W => Quick_ok (n : Int) 1000000000000 zo zo zo zo zo W)
  have e : (((n : Int) : Rat) / ((1000000000000 : Int) : Rat)) = rN n := rfl
  rw [e] at H
  generalize rN n = q at *
  go_enter Tryz.func54, Tryz.ntmps54
  go_wp2_with fail
  obtain ⟨wq1, EW, hz, X1⟩ := al1 w #[.bool false, .slice none 0 0, .bool false, .slice none 0 0] 97
  rw [EW]
  have hk2 := Bt (Below.refl _ _) hz
  clear EW hz
  refine (H.out _).mono ?_
  rintro e wc3 ⟨v, rfl, hb3, hv4⟩
  obtain ⟨bC, paC, lC, caC, bCd, paCd, lCd, caCd, rfl, hx4, hy4⟩ := id hv4
  replace X1 := X1.bl hb3
  have hk5 := Bt hk2 hb3
  clear hk2
  have QC := zh hv4
  clear hb3 hv4 hx4 hy4
  obtain ⟨cX1, lX1, fX1⟩ := X1.clf
  have hres := X1.out
  have cres := hres.cell
  have fres := hres.free
  go_wp2_with fail
  refine ret_c rfl rfl boxA Tryz.underlying97 rfl zk ?_
  exact ⟨_, rfl, belA, Ra.set4 QC.out hres zd _ _ _ _⟩
def abE (lo hi : Int) : (Int × Int) × Int := if bok lo hi = false then ((0, 0), 30) else if 0 ≤ lo then ((lo, hi), 0) else if hi ≤ 0 then ((-hi, -lo), 0) else ((0, max (-lo) hi), 0)
theorem Abs_ok (lo hi : Int) (w : World) : Calls Tryz.prog 70 #[.agg #[.int .i64 lo, .int .i64 hi]] w (fun e w' => e = .returned (bndV (abE lo hi)) ∧ Below w.heap.size w w') := by
  have H := zh (fun W => Right_ok lo hi W)
  have HB : bok lo hi = true → -1000000000000000000 ≤ lo ∧ lo ≤ hi ∧ hi ≤ 1000000000000000000 := fun h => by simpa [bok] using h
  unfold abE
  generalize hb : bok lo hi = b at *
  unfold bndV
  have h0 : Below w.heap.size w ((w.alloc (.cells #[.int .i64 lo, .int .i64 hi] 23)).alloc (.cells #[.int .i64 0, .int .i64 0] 23)) := belA
  go_enter Tryz.func70, Tryz.ntmps70
  go_wp2_with fail
  obtain ⟨wx, EW, hz, X1, X2⟩ := al2 w #[.int .i64 lo, .int .i64 hi] 23 #[.int .i64 0, .int .i64 0] 23
  rw [EW]
  clear EW h0
  refine (H.out _).mono ?_
  rintro e w1 ⟨rfl, hb1⟩
  replace X1 := X1.bl hb1
  replace X2 := X2.bl hb1
  replace hz := Bt hz hb1
  clear hb1 H
  obtain ⟨c1, l1⟩ := X1.cl
  obtain ⟨c2, l2, f2⟩ := X2.clf
  have x2 := X2.out
  cases b
  · go_wp2_with fail
    refine ret_ct rfl rfl boxA Tryz.underlying23 rfl zk ?_
    exact ⟨rfl, belA⟩
  · obtain ⟨k1, k2, k3⟩ := HB rfl
    clear HB
    by_cases g1 : 0 ≤ lo
    · go_wp2_with fail
      refine ret_ct rfl rfl boxA Tryz.underlying23 rfl zk ?_
      exact ⟨by simp [g1], belA⟩
    · by_cases g2 : hi ≤ 0
      · have w1 : IntKind.i64.wrap (-hi) = -hi := by rw [IntKind.wrap_i64]; omega
        have w2 : IntKind.i64.wrap (-lo) = -lo := by rw [IntKind.wrap_i64]; omega
        go_wp2_with fail
        refine ret_ct rfl rfl boxA Tryz.underlying23 rfl zk ?_
        exact ⟨by simp [g1, g2], belA⟩
      · have w2 : IntKind.i64.wrap (-lo) = -lo := by rw [IntKind.wrap_i64]; omega
        go_wp2_with fail
        all_goals
          refine ret_ct rfl rfl boxA Tryz.underlying23 rfl zk ?_
          exact ⟨by simp [g1, g2] <;> omega, belA⟩
end Go.Proofs.verdigrisref03
namespace Go.Proofs.verdigrisref04
open Go Go.RowKit Go.SW Go.Num Go.Mem Go.Proofs Go.Dec Go.Fra Go.Proofs.band Go.Proofs.verdigrisref02 Go.Proofs.verdigrisref03 Go.Proofs.power
theorem right_ok (p q : Int) (w : World) : Calls Tryz.prog 50 #[.int .i64 p, .int .i64 q] w (fun e w' => e = .returned (.bool (eok p q)) ∧ Below w.heap.size w w') := by
  unfold eok
  cases h1 : decide (1 ≤ p) <;> cases h2 : decide (p ≤ 36) <;> cases h3 : decide (1 ≤ q) <;> cases h4 : decide (q ≤ 12)
  all_goals
    go_enter Tryz.func50, Tryz.ntmps50
    go_wp2_with fail
    go_ret
    exact ⟨rfl, belA⟩
theorem made_ok (lo hi : Int) (w : World) : Calls Tryz.prog 51 #[.int .i64 lo, .int .i64 hi] w (fun e w' => e = .returned (bndV (madeE lo hi)) ∧ Below w.heap.size w w') := by
  have H := zh (fun W => Right_ok lo hi W)
  unfold madeE
  generalize bok lo hi = b at *
  unfold bndV
  cases b
  all_goals
    go_enter Tryz.func51, Tryz.ntmps51
    go_wp2_with fail
    obtain ⟨wx, EW, hz, X1, X2⟩ := al2 w #[.int .i64 0, .int .i64 0] 23 #[.int .i64 lo, .int .i64 hi] 23
    rw [EW]
    clear EW
    refine (H.out _).mono ?_
    rintro e w1 ⟨rfl, hb1⟩
    replace X1 := X1.bl hb1
    replace X2 := X2.bl hb1
    replace hz := Bt hz hb1
    clear hb1
    obtain ⟨c2, l2⟩ := X2.cl
    obtain ⟨c1, l1, f1⟩ := X1.clf
    have x1 := X1.out
    go_wp2_with fail
    refine ret_ct rfl rfl boxA Tryz.underlying23 rfl zk ?_
    exact ⟨rfl, belA⟩
theorem rN_sz {n : Nat} (h : n ≤ 10 ^ 18 + 1) : sz 10000 (rN n).num.natAbs ≤ 5 ∧ sz 10000 (rN n).den ≤ 5 := by
  obtain ⟨h1, h2⟩ := rN_parts n
  rw [h1, h2, Int.natAbs_natCast]
  have a : n / n.gcd 1000000000000 ≤ n := Nat.div_le_self _ _
  have b : 1000000000000 / n.gcd 1000000000000 ≤ 1000000000000 := Nat.div_le_self _ _
  exact ⟨sz_le_of_lt zo _ _ zo, sz_le_of_lt zo _ _ zo⟩
theorem rN_raised (n q : Nat) (h : n ≤ 10 ^ 18 + 1) (hq : q ≤ 36) (x : Value) (w : World) (hx : Ra w x (rN n)) : Calls Tryz.prog 53 #[x, .int .i64 q] w (RaPost w (rN n ^ q)) := by
  obtain ⟨h1, h2⟩ := rN_sz h
  exact verdigrisref02.Raised_ok x _ q w hx (by have := Nat.mul_le_mul h1 hq; omega) (by have := Nat.mul_le_mul h2 hq; omega) zo zo zo
end Go.Proofs.verdigrisref04
