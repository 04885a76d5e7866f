/- Lemmas for the proof. No condition. -/
import Derived.Test.YtddblpggomphpaaGreatDoorZB02
import Derived.Test.YtddblpggomphpaaGreatDoorZB09
import Derived.Test.YtddblpggomphpaaGreatDoorZB11
import Derived.Test.YtddblpggomphpaaGreatDoorZB12
import Derived.Deep.Cut
set_option linter.unusedVariables false
set_option linter.unusedSimpArgs false
namespace Go.Proofs.verdigrisref01
open Go Go.RowKit Go.SW Go.Num Go.Mem Go.Proofs Go.Dec
theorem strip_dec {l : List Nat} {k : Nat} (hd : Dig 10000 l) (ht : Top l) (h : ∀ i, i < k → (txt l)[i]? = some 48) (hk : k < (txt l).length) (hne : (txt l)[k]? ≠ some 48) : (txt l).drop k = Lib.decDigits (val 10000 l) := by
  have hl : l ≠ [] := fun e => by subst e; cases hk
  have hp := val_pos_of_top (B := 10000) (by omega) ht hl
  obtain ⟨m, hm⟩ := txt_dec hd ht hl
  have hkm : k = m := by
    rcases Nat.lt_trichotomy k m with h1 | h1 | h1
    · exfalso
      rw [hm, List.getElem?_append_left (by simpa using h1)] at hne
      simp [h1] at hne
    · exact h1
    · exfalso
      have h2 := h m h1
      rw [hm, List.getElem?_append_right (by simp)] at h2
      simp only [List.length_replicate, Nat.sub_self] at h2
      have := dec_head (n := val 10000 l) (by rw [List.head?_eq_getElem?]; exact h2)
      omega
  subst hkm
  rw [hm, List.drop_append_of_le_length (by simp), List.drop_of_length_le (by simp), List.nil_append]
theorem strip_all {l : List Nat} (hd : Dig 10000 l) (ht : Top l) (h : ∀ i, i < (txt l).length → (txt l)[i]? = some 48) : val 10000 l = 0 := by
  by_cases hl : l = []
  · subst hl; rfl
  · exfalso
    have hp := val_pos_of_top (B := 10000) (by omega) ht hl
    obtain ⟨m, hm⟩ := txt_dec hd ht hl
    have h2 := h m (by rw [hm, List.length_append, List.length_replicate]; have := dec_len_pos (val 10000 l); omega)
    rw [hm, List.getElem?_append_right (by simp)] at h2
    simp only [List.length_replicate, Nat.sub_self] at h2
    have := dec_head (n := val 10000 l) (by rw [List.head?_eq_getElem?]; exact h2)
    omega
theorem ba_eq {a b : ByteArray} (h : a.data.toList = b.data.toList) : a = b := by
  cases a; cases b
  simp only at h
  rw [Array.toList_inj.1 h]
theorem itoa_abs (z : Int) : Lib.itoa z = if z < 0 then 45 :: Lib.decDigits z.natAbs else Lib.decDigits z.natAbs := by
  unfold Lib.itoa
  by_cases h : z < 0
  · rw [if_pos h, if_pos h]
  · rw [if_neg h, if_neg h, show z.toNat = z.natAbs by omega]
theorem extract_list (S : ByteArray) (k : Nat) : (S.extract k S.size).data.toList = S.data.toList.drop k := by
  have h : S.size = S.data.toList.length := rfl
  rw [ByteArray.data_extract, Array.toList_extract]
  unfold List.extract
  rw [List.take_of_length_le (by rw [List.length_drop, h]; exact Nat.le_refl _)]
set_option maxRecDepth 10000 in
set_option maxHeartbeats 2000000 in
theorem Text_ok (x : Value) (z : Int) (w : World) (hx : Pl w x z) (hs : sz 10000 z.natAbs ≤ 1073741824) :
    Calls Tryz.prog 198 #[x] w (fun e w' => e = .returned (.string ⟨(Lib.itoa z).toArray⟩) ∧ Below w.heap.size w w') := by
  obtain ⟨bA, paA, lA, caA, rfl⟩ := hx.agg
  obtain ⟨hn, hbz⟩ := hx.nm
  obtain ⟨l, El⟩ : ∃ l, digs 10000 z.natAbs = l := ⟨_, rfl⟩
  obtain ⟨pa', ca', e, k1, k2, k3⟩ := hn.read
  simp only [Value.slice.injEq] at e
  obtain ⟨rfl, rfl, rfl⟩ := e
  rw [El] at k3
  have hl : l.length = sz 10000 z.natAbs := by rw [← El]; rfl
  have hdl : Dig 10000 l := by rw [← El]; exact dig_digs (by omega) _
  have htl : Top l := by rw [← El]; exact top_digs (by omega) _
  have hvl : val 10000 l = z.natAbs := by rw [← El]; exact val_digs (by omega) _
  obtain ⟨L, EL⟩ : ∃ L, sz 10000 z.natAbs = L := ⟨_, rfl⟩
  rw [EL] at hl hs k1 k3 ⊢
  have h0 : Below w.heap.size w (w.alloc (.cells #[.bool bA, .slice paA L caA] 150)) := belA
  have hbx := Box.new w #[.bool bA, .slice paA L caA] 150
  obtain ⟨W, EW⟩ : ∃ y, w.alloc (.cells #[.bool bA, .slice paA L caA] 150) = y := ⟨_, rfl⟩
  rw [EW] at h0 hbx
  have k4 : ∀ k, k < L → ∃ b off, paA = some ⟨b, off, none⟩ ∧ b < W.heap.size ∧ W.cell? ⟨b, off + k, none⟩ = some (.int .i64 (l.getD k 0 : Nat)) := fun k hk => by
    obtain ⟨b, off, e, h1, h2⟩ := k3 k hk
    exact ⟨b, off, e, Nat.lt_of_lt_of_le h1 h0.size, (h0.cell (by exact h1)).trans h2⟩
  have K4 := Lib.hid k4
  have HX := Lib.hid hbx
  have HL := Lib.hid hl
  have HDL := Lib.hid hdl
  have HTL := Lib.hid htl
  have HVL := Lib.hid hvl
  have HBZ := Lib.hid hbz
  have c0 := hbx.cell
  clear k3 k4 hbx hl hdl htl hvl hbz hn hx EL El
  go_enter Tryz.func198, Tryz.ntmps198
  go_wp2_with fail
  clear EW c0
  go_loopw [3, 4] (fun sv iv wr => ∃ (q : Int) (S : ByteArray), -1 ≤ q ∧ q < L ∧ iv = .int .i64 q ∧ sv = .string S ∧ Hid (S.data.toList = txt (l.drop (q + 1).toNat)) ∧ Hid (Below W.heap.size W wr)) (fun _ iv _ => (intOf iv + 1).toNat)
  case atStart =>
    have e : ((L : Int) - 1 + 1).toNat = l.length := by have := HL.out; omega
    exact ⟨(L : Int) - 1, ⟨#[]⟩, by omega, by omega, rfl, rfl, Lib.hid (by rw [e, List.drop_length]; rfl), Lib.hid (Below.refl _ _)⟩
  case round =>
    obtain ⟨q, S, hq1, hq2, rfl, rfl, HS, HB⟩ := hrel
    have hbx := HX.out.later HB.out
    have c0 := hbx.cell
    by_cases hq : q < 0
    · have hq0 : q = -1 := by omega
      subst hq0
      have hS : S.data.toList = txt l := by have := HS.out; simpa using this
      have HS2 := Lib.hid hS
      clear hS HS
      have hsz : S.size = 4 * L := by
        have h1 : S.size = S.data.toList.length := rfl
        rw [h1, HS2.out, txt_len, HL.out]
      go_wp2_with fail
      go_loop [5] (fun kv => ∃ k : Nat, k ≤ S.size ∧ kv = .int .i64 k ∧ Hid (∀ i, i < k → S.data.toList[i]? = some 48)) (fun kv => S.size - (intOf kv).toNat)
      case atStart => exact ⟨0, Nat.zero_le _, rfl, Lib.hid fun i hi => by cases hi⟩
      case round =>
        obtain ⟨k, hk, rfl, HK⟩ := hrel
        by_cases hks : k < S.size
        · have hg : (txt l)[k]? = some S[k] := by
            rw [← HS2.out]
            exact List.getElem?_eq_getElem (by exact hks)
          by_cases h48 : S[k] = 48
          · have e : ((S[k].toNat : Int) == 48) = true := by rw [h48]; rfl
            have HK1 : Hid (∀ i, i < k + 1 → S.data.toList[i]? = some 48) := Lib.hid fun i hi => by
              by_cases hik : i < k
              · exact HK.out i hik
              · obtain rfl : i = k := by omega
                rw [HS2.out, hg, h48]
            clear hg h48
            go_wp2_with fail
            go_round
            case rel => exact ⟨k + 1, by omega, by go_num, HK1⟩
            case measure => simp [intOf]; omega
          · have e : ((S[k].toNat : Int) == 48) = false := by
              rw [beq_eq_false_iff_ne]
              intro h
              exact h48 (UInt8.toNat_inj.1 (by have : S[k].toNat = 48 := by omega
                                               rw [this]; rfl))
            have hdrop := strip_dec HDL.out HTL.out (fun i hi => by rw [← HS2.out]; exact HK.out i hi) (by rw [← HS2.out]; exact hks) (by rw [hg]; intro h; exact h48 (Option.some.inj h))
            have hT : (S.extract k (4 * L)).data.toList = Lib.decDigits z.natAbs := by
              rw [← hsz, extract_list, HS2.out, hdrop, HVL.out]
            have hE : (S.extract k (4 * L)).toList.isEmpty = false := by
              rw [ByteArray.toList_eq, hT]
              have := dec_len_pos z.natAbs
              cases h : Lib.decDigits z.natAbs with
              | nil => rw [h] at this; cases this
              | cons a b => rfl
            have HT := Lib.hid hT
            clear hdrop hT hg h48 HK
            cases bA
            · have hz : ¬ z < 0 := by have := HBZ.out; intro h; rw [decide_eq_true h] at this; cases this
              have eS : S.extract k (4 * L) = ⟨(Lib.itoa z).toArray⟩ := ba_eq (by rw [HT.out, itoa_abs, if_neg hz])
              have ES := Lib.hid eS
              clear eS hz
              go_wp2_with fail
              go_ret
              exact ⟨congrArg (fun s => Ending.returned (.string s)) ES.out, Bt h0 HB.out⟩
            · have hz : z < 0 := of_decide_eq_true HBZ.out.symm
              have eS : (⟨#[45]⟩ : ByteArray) ++ S.extract k (4 * L) = ⟨(Lib.itoa z).toArray⟩ := ba_eq (by
                rw [itoa_abs, if_pos hz, ByteArray.data_append, Array.toList_append, HT.out]
                rfl)
              have ES := Lib.hid eS
              have hsm : ¬ 9223372036854775807 < 1 + (S.extract k (4 * L)).size := by
                have h1 : (S.extract k (4 * L)).size = (S.extract k (4 * L)).data.toList.length := rfl
                have h2 := HT.out
                rw [← hsz, extract_list] at h2
                have h3 : (S.extract k (4 * L)).data.toList.length ≤ S.data.toList.length := by
                  rw [← hsz, extract_list, List.length_drop]
                  omega
                have h4 : S.data.toList.length = S.size := rfl
                omega
              clear eS hz
              go_wp2_with fail
              go_ret
              exact ⟨congrArg (fun s => Ending.returned (.string s)) ES.out, Bt h0 HB.out⟩
        · have hke : k = S.size := by omega
          subst hke
          have hz0 : z.natAbs = 0 := by
            rw [← HVL.out]
            exact strip_all HDL.out HTL.out fun i hi => by
              rw [← HS2.out] at hi ⊢
              exact HK.out i hi
          have hz : z = 0 := by omega
          have EZ : Hid ((⟨#[48]⟩ : ByteArray) = ⟨(Lib.itoa z).toArray⟩) := Lib.hid (by rw [hz]; exact ba_eq (by rw [itoa_abs]; simp [dec_small]))
          clear hz hz0 HK
          go_wp2_with fail
          go_ret
          exact ⟨congrArg (fun s => Ending.returned (.string s)) EZ.out, Bt h0 HB.out⟩
    · obtain ⟨j, rfl⟩ := Int.eq_ofNat_of_zero_le (by omega : 0 ≤ q)
      have ej : ((j : Int) + 1).toNat = j + 1 := by omega
      rw [ej] at HS
      obtain ⟨b, off, rfl, hb1, hc1⟩ := K4.out j (by omega)
      have hcj : wr.cell? ⟨b, off + j, none⟩ = some (.int .i64 (l.getD j 0 : Nat)) := (HB.out.cell (by exact hb1)).trans hc1
      have hdj := HDL.out.getD (by omega) j
      have HST : Hid (txt (l.drop j) = S.data.toList ++ pad 4 (l.getD j 0)) := Lib.hid (by rw [HS.out]; exact txt_drop (by rw [HL.out]; omega))
      have HSL : Hid (S.data.toList.length = 4 * (L - (j + 1))) := Lib.hid (by rw [HS.out, txt_len, List.length_drop, HL.out])
      clear HS hc1
      generalize l.getD j 0 = d at *
      have HF := Lib.hid (four_ok d hdj)
      have hsum : ¬ 9223372036854775807 < S.size + (pad 4 d).length := by
        have h1 : S.size = S.data.toList.length := rfl
        rw [pad_length, h1, HSL.out]
        omega
      go_wp2_with fail
      refine (HF.out _).mono ?_
      rintro e w1 ⟨rfl, hb⟩
      have HB1 := Lib.hid (Bt HB.out hb)
      clear hb hbx c0 hcj
      go_wp2_with fail
      go_roundw
      case rel =>
        have e1 : ((j : Int) - 1 + 1).toNat = j := by omega
        exact ⟨(j : Int) - 1, S ++ ⟨(pad 4 d).toArray⟩, by omega, by omega, rfl, rfl, Lib.hid (by rw [e1, HST.out]; simp), HB1⟩
      case measure => simp [intOf]
end Go.Proofs.verdigrisref01
namespace Go.Proofs.verdigrisref01
open Go Go.RowKit Go.SW Go.Num Go.Mem Go.Proofs Go.Dec
theorem dec_len_sz (n : Nat) : (Lib.decDigits n).length ≤ 4 * sz 10000 n + 1 := by
 refine dec_len_le _ _ (by omega) ?_
 have h1 := lt_pow_sz (B := 10000) (by omega) n
 have h2 : (10 : Nat) ^ (4 * sz 10000 n) = 10000 ^ sz 10000 n := by rw [Nat.pow_mul]
 rw [Nat.pow_succ, h2]
 omega
/-- A text, or that it is too long. -/
def outV (z : Int) : Value := if Fra.okn z.natAbs then .tuple #[itxt z, .int .i64 0] else .tuple #[.string ⟨#[]⟩, .int .i64 6]
theorem itoa_len (z : Int) : (Lib.itoa z).length = (Lib.decDigits z.natAbs).length + (if z < 0 then 1 else 0) := by
 rw [itoa_abs]
 by_cases h : z < 0
 ·rw [if_pos h, if_pos h]; rfl
 ·rw [if_neg h, if_neg h]; rfl
set_option maxRecDepth 10000 in
set_option maxHeartbeats 2000000 in
theorem Out_ok (x : Value) (z : Int) (w : World) (hx : Pl w x z) (hs : sz 10000 z.natAbs ≤ 1073741824) :
  Calls Tryz.prog 162 #[x] w (fun e w' => e = .returned (outV z) ∧ Below w.heap.size w w') := by
 obtain ⟨bA, paA, lA, caA, rfl⟩ := hx.agg
 obtain ⟨hn, hbz⟩ := hx.nm
 have NA := Lib.hid hx
 have hlen := itoa_len z
 have hok := Fra.okn_len (n := z.natAbs)
 obtain ⟨S, ES⟩ : ∃ S : ByteArray, Hid (S = ⟨(Lib.itoa z).toArray⟩) := ⟨_, Lib.hid rfl⟩
 have hsz : S.size = (Lib.itoa z).length := by rw [ES.out]; simp [ByteArray.size]
 have hsb : (Lib.decDigits z.natAbs).length ≤ 4294967297 := by
  have := dec_len_sz z.natAbs
  omega
 have HT := Lib.hid (fun W (hb : Below w.heap.size w W) => Text_ok _ z W (hx.later hb) hs)
 rw [← ES.out] at HT
 have hv : outV z = if (Lib.decDigits z.natAbs).length ≤ 600 then .tuple #[.string S, .int .i64 0] else .tuple #[.string ⟨#[]⟩, .int .i64 6] := by
  unfold outV
  rw [ES.out]
  by_cases h : (Lib.decDigits z.natAbs).length ≤ 600
  ·rw [if_pos h, if_pos (hok.2 h)]; rfl
  ·rw [if_neg h, if_neg (fun h' => h (hok.1 h'))]
 rw [hv]
 obtain ⟨n, En⟩ : ∃ n, (Lib.decDigits z.natAbs).length = n := ⟨_, rfl⟩
 rw [En] at hlen hsb ⊢
 rw [hlen] at hsz
 have h0 : Below w.heap.size w (w.alloc (.cells #[.bool bA, .slice paA lA caA] 150)) := belA
 have hbx := Box.new w #[.bool bA, .slice paA lA caA] 150
 have HBX := Lib.hid hbx
 have HH0 := Lib.hid h0
 by_cases hz : z < 0
 ·have hbt : bA = true := by rw [hbz, decide_eq_true hz]
  subst hbt
  rw [if_pos hz] at hsz
  clear hz hlen hok hn hbz hv En hs hx NA h0 hbx
  by_cases hbig : n ≤ 600
  ·rw [if_pos hbig]
   have e1 : ¬ (600 : Int) < (n : Int) + 1 - 1 := by omega
   go_enter Tryz.func162, Tryz.ntmps162
   go_wp2_with fail
   refine (HT.out _ HH0.out).mono ?_
   rintro e w1 ⟨rfl, hb⟩
   have c0 := (HBX.out.later hb).cell
   go_wp2_with fail
   go_ret2
   exact ⟨rfl, Bt HH0.out hb⟩
  ·rw [if_neg hbig]
   have e1 : (600 : Int) < (n : Int) + 1 - 1 := by omega
   go_enter Tryz.func162, Tryz.ntmps162
   go_wp2_with fail
   refine (HT.out _ HH0.out).mono ?_
   rintro e w1 ⟨rfl, hb⟩
   have c0 := (HBX.out.later hb).cell
   go_wp2_with fail
   go_ret2
   exact ⟨rfl, Bt HH0.out hb⟩
 ·have hbt : bA = false := by rw [hbz, decide_eq_false hz]
  subst hbt
  rw [if_neg hz, Nat.add_zero] at hsz
  clear hz hlen hok hn hbz hv En hs hx NA h0 hbx
  by_cases hbig : n ≤ 600
  ·rw [if_pos hbig]
   have e1 : ¬ (600 : Int) < (n : Int) := by omega
   go_enter Tryz.func162, Tryz.ntmps162
   go_wp2_with fail
   refine (HT.out _ HH0.out).mono ?_
   rintro e w1 ⟨rfl, hb⟩
   have c0 := (HBX.out.later hb).cell
   go_wp2_with fail
   go_ret2
   exact ⟨rfl, Bt HH0.out hb⟩
  ·rw [if_neg hbig]
   have e1 : (600 : Int) < (n : Int) := by omega
   go_enter Tryz.func162, Tryz.ntmps162
   go_wp2_with fail
   refine (HT.out _ HH0.out).mono ?_
   rintro e w1 ⟨rfl, hb⟩
   have c0 := (HBX.out.later hb).cell
   go_wp2_with fail
   go_ret2
   exact ⟨rfl, Bt HH0.out hb⟩
end Go.Proofs.verdigrisref01
namespace Go.Proofs.verdigrisref01
open Go Go.RowKit Go.SW Go.Num Go.Mem Go.Proofs Go.Dec
end Go.Proofs.verdigrisref01
namespace Go.Proofs.verdigrisref01
open Go Go.RowKit Go.SW Go.Num Go.Mem Go.Proofs Go.Dec
end Go.Proofs.verdigrisref01
namespace Go.Proofs.verdigrisref02
open Go Go.RowKit Go.SW Go.Num Go.Mem Go.Proofs Go.Dec Go.Proofs.verdigrisref01
/-- The value v is the fraction q in lowest terms. -/
def Ra (w : World) (v : Value) (q : Rat) : Prop := ∃ bn pn ln cn bd pd ld cd, v = .agg #[.bool bn, .slice pn ln cn, .bool bd, .slice pd ld cd] ∧ Pl w (.agg #[.bool bn, .slice pn ln cn]) q.num ∧ Pl w (.agg #[.bool bd, .slice pd ld cd]) q.den
theorem Ra.later {w w' : World} {v : Value} {q : Rat} (h : Ra w v q) (hb : Below w.heap.size w w') : Ra w' v q := by
 obtain ⟨bn, pn, ln, cn, bd, pd, ld, cd, e, h1, h2⟩ := h
 exact ⟨bn, pn, ln, cn, bd, pd, ld, cd, e, h1.later hb, h2.later hb⟩
def RaPost (w : World) (q : Rat) (e : Ending) (w' : World) : Prop := ∃ v', e = .returned v' ∧ Below w.heap.size w w' ∧ Ra w' v' q
/-- Both parts of n / d in lowest terms. -/
theorem low_parts {n d : Int} (hd : 0 < d) : ((n : Rat) / (d : Rat)).num = n / (Nat.gcd n.natAbs d.natAbs : Int) ∧ (((n : Rat) / (d : Rat)).den : Int) = d / (Nat.gcd n.natAbs d.natAbs : Int) := by
 obtain ⟨k, rfl⟩ := Int.eq_ofNat_of_zero_le (Int.le_of_lt hd)
 have hk : 0 < k := by omega
 have e : (n : Rat) / ((k : Int) : Rat) = mkRat n k := by
  rw [Rat.mkRat_eq_div]
  rfl
 have h := Fra.mk_parts n hk
 rw [e, Int.natAbs_natCast]
 refine ⟨?_, ?_⟩
 ·rw [h.1, Fra.sgd_divn (Nat.gcd_dvd_left _ _)]
 ·rw [h.2, Int.natCast_ediv]
theorem Pl.set4 {w : World} {v : Value} {z : Int} (h : Pl w v z) {b : Nat} {cs : Array Value} {T' : TypeId} (hx : Box w b cs T') (hT : 3 ≠ T') (u0 u1 u2 u3 : Value) :
  Pl ((((w.setCell ⟨b, 0, none⟩ u0).setCell ⟨b, 1, none⟩ u1).setCell ⟨b, 2, none⟩ u2).setCell ⟨b, 3, none⟩ u3) v z :=
 (h.set2 hx hT 0 1 u0 u1).set2 ((hx.set 0 u0).set 1 u1) hT 2 3 u2 u3
theorem Ra.set4 {w : World} {v : Value} {q : Rat} (h : Ra w v q) {b : Nat} {cs : Array Value} {T' : TypeId} (hx : Box w b cs T') (hT : 3 ≠ T') (u0 u1 u2 u3 : Value) :
  Ra ((((w.setCell ⟨b, 0, none⟩ u0).setCell ⟨b, 1, none⟩ u1).setCell ⟨b, 2, none⟩ u2).setCell ⟨b, 3, none⟩ u3) v q := by
 obtain ⟨bn, pn, ln, cn, bd, pd, ld, cd, e, h1, h2⟩ := h
 exact ⟨bn, pn, ln, cn, bd, pd, ld, cd, e, Pl.set4 h1 hx hT u0 u1 u2 u3, Pl.set4 h2 hx hT u0 u1 u2 u3⟩
set_option maxRecDepth 10000 in
set_option maxHeartbeats 4000000 in
theorem Lowest_pos (x y : Value) (n d : Int) (w : World) (hx : Pl w x n) (hy : Pl w y d) (ha : sz 10000 n.natAbs ≤ 274877906944) (hb : sz 10000 d.natAbs ≤ 274877906944) (hd : 0 < d) :
  Calls Tryz.prog 158 #[x, y] w (RaPost w ((n : Rat) / (d : Rat))) := by
 obtain ⟨e1, e2⟩ := low_parts (n := n) hd
 obtain ⟨q, Eq⟩ : ∃ q : Rat, (n : Rat) / (d : Rat) = q := ⟨_, rfl⟩
 rw [Eq] at e1 e2 ⊢
 obtain ⟨bA, paA, lA, caA, rfl⟩ := hx.agg
 obtain ⟨bB, paB, lB, caB, rfl⟩ := hy.agg
 have hbf : bB = false := by rw [hy.nm.2]; simp; omega
 subst hbf
 have NA := Lib.hid hx
 have NB := Lib.hid hy
 have KA := Lib.hid ha
 have KB := Lib.hid hb
 have hg0 : 0 < Nat.gcd n.natAbs d.natAbs := Nat.gcd_pos_of_pos_right _ (by omega)
 have hgd : Nat.gcd n.natAbs d.natAbs ≤ d.natAbs := Nat.le_of_dvd (by omega) (Nat.gcd_dvd_right _ _)
 have dn : ((Nat.gcd n.natAbs d.natAbs : Nat) : Int) ∣ n := by rw [← Int.dvd_natAbs, Int.ofNat_dvd]; exact Nat.gcd_dvd_left _ _
 have dd : ((Nat.gcd n.natAbs d.natAbs : Nat) : Int) ∣ d := by rw [← Int.dvd_natAbs, Int.ofNat_dvd]; exact Nat.gcd_dvd_right _ _
 have HDV := Lib.hid (fun W => Divisor_ok (.agg #[.bool bA, .slice paA lA caA]) (.agg #[.bool false, .slice paB lB caB]) n d W)
 generalize Nat.gcd n.natAbs d.natAbs = g at *
 have G0 : Hid (0 < (g : Int)) := Lib.hid (by omega)
 have KG : Hid (sz 10000 (g : Int).natAbs ≤ 274877906944) := Lib.hid (Nat.le_trans (sz_mono (by omega) (by simpa using hgd)) hb)
 have DN := Lib.hid dn
 have DD := Lib.hid dd
 have E1 := Lib.hid e1
 have E2 := Lib.hid e2
 clear e1 e2 Eq hx hy ha hb hd hg0 hgd dn dd
 go_enter Tryz.func158, Tryz.ntmps158
 go_wp2_with fail
 have hz : Below w.heap.size w (((w.alloc (.cells #[.bool bA, .slice paA lA caA] 150)).alloc (.cells #[.bool false, .slice paB lB caB] 150)).alloc (.cells #[.bool false, .slice none 0 0, .bool false, .slice none 0 0] 152)) := belA
 obtain ⟨wq1, EW⟩ : ∃ y, (((w.alloc (.cells #[.bool bA, .slice paA lA caA] 150)).alloc (.cells #[.bool false, .slice paB lB caB] 150)).alloc (.cells #[.bool false, .slice none 0 0, .bool false, .slice none 0 0] 152)) = y := ⟨_, rfl⟩
 have X1 : Hid (Box wq1 (w.heap.size) #[.bool bA, .slice paA lA caA] 150) := Lib.hid (by rw [← EW]; exact Box.alloc (Box.alloc (Box.new _ _ _) _) _)
 have X2 : Hid (Box wq1 (w.heap.size + 1) #[.bool false, .slice paB lB caB] 150) := Lib.hid (by rw [← EW]; exact Box.alloc (Box.at1 _ _ _ _) _)
 have X3 : Hid (Box wq1 (w.heap.size + 1 + 1) #[.bool false, .slice none 0 0, .bool false, .slice none 0 0] 152) := Lib.hid (by rw [← EW]; exact Box.at2 _ _ _ _ _)
 rw [EW] at hz ⊢
 replace NA := Lib.hid (NA.out.later hz)
 replace NB := Lib.hid (NB.out.later hz)
 have hk2 := Bt (Below.refl _ _) hz
 clear EW hz
 refine (HDV.out _ NA.out NB.out KA.out KB.out).mono ?_
 rintro e wc3 ⟨v, rfl, hb3, hv4⟩
 obtain ⟨bG, paG, lG, caG, rfl⟩ := hv4.agg
 replace NA := Lib.hid (NA.out.later hb3)
 replace NB := Lib.hid (NB.out.later hb3)
 replace X1 := Lib.hid (X1.out.later hb3)
 replace X2 := Lib.hid (X2.out.later hb3)
 replace X3 := Lib.hid (X3.out.later hb3)
 have hk5 := Bt hk2 hb3
 clear hk2
 have NG := Lib.hid hv4
 clear hb3 hv4
 have cX1 := X1.out.cell; have lX1 := X1.out.lt; have fX1 := X1.out.free
 go_upto_region 4 with fail
 clear cX1 lX1 fX1
 have hz : Below wc3.heap.size wc3 (wc3.alloc (.cells #[.bool bG, .slice paG lG caG] 150)) := belA
 obtain ⟨wq6, EW⟩ : ∃ y, (wc3.alloc (.cells #[.bool bG, .slice paG lG caG] 150)) = y := ⟨_, rfl⟩
 have X4 : Hid (Box wq6 (wc3.heap.size) #[.bool bG, .slice paG lG caG] 150) := Lib.hid (by rw [← EW]; exact Box.new _ _ _)
 rw [EW] at hz ⊢
 replace NA := Lib.hid (NA.out.later hz)
 replace NB := Lib.hid (NB.out.later hz)
 replace X1 := Lib.hid (X1.out.later hz)
 replace X2 := Lib.hid (X2.out.later hz)
 replace X3 := Lib.hid (X3.out.later hz)
 replace NG := Lib.hid (NG.out.later hz)
 have hk7 := Bt hk5 hz
 clear hk5
 clear EW hz
 generalize wc3.heap.size = pq6 at *
 have cX1 := X1.out.cell; have lX1 := X1.out.lt; have fX1 := X1.out.free
 have cX4 := X4.out.cell; have lX4 := X4.out.lt; have fX4 := X4.out.free
 go_wp2_with fail
 clear cX1 lX1 fX1 cX4 lX4 fX4
 refine (Parts_ok _ _ _ _ _ NA.out NG.out KA.out KG.out G0.out (.inr DN.out)).mono ?_
 rintro e wc8 ⟨vx, vy, rfl, hb8, hq, hr⟩
 obtain ⟨bX, paX, lX, caX, rfl⟩ := hq.agg
 obtain ⟨bU, paU, lU, caU, rfl⟩ := hr.agg
 replace NA := Lib.hid (NA.out.later hb8)
 replace NB := Lib.hid (NB.out.later hb8)
 replace X1 := Lib.hid (X1.out.later hb8)
 replace X2 := Lib.hid (X2.out.later hb8)
 replace X3 := Lib.hid (X3.out.later hb8)
 replace NG := Lib.hid (NG.out.later hb8)
 replace X4 := Lib.hid (X4.out.later hb8)
 have hk10 := Bt hk7 hb8
 clear hk7
 have NX := Lib.hid hq
 clear hb8 hq
 have cX2 := X2.out.cell; have lX2 := X2.out.lt; have fX2 := X2.out.free
 have cX4 := X4.out.cell; have lX4 := X4.out.lt; have fX4 := X4.out.free
 go_upto_region 5 with fail
 clear cX2 lX2 fX2 cX4 lX4 fX4
 have hz : Below wc8.heap.size wc8 ((wc8.alloc (.cells #[.bool bX, .slice paX lX caX] 150)).alloc (.cells #[.bool bU, .slice paU lU caU] 150)) := belA
 obtain ⟨wq11, EW⟩ : ∃ y, ((wc8.alloc (.cells #[.bool bX, .slice paX lX caX] 150)).alloc (.cells #[.bool bU, .slice paU lU caU] 150)) = y := ⟨_, rfl⟩
 have X5 : Hid (Box wq11 (wc8.heap.size) #[.bool bX, .slice paX lX caX] 150) := Lib.hid (by rw [← EW]; exact Box.alloc (Box.new _ _ _) _)
 rw [EW] at hz ⊢
 clear NA
 replace NB := Lib.hid (NB.out.later hz)
 clear X1
 replace X2 := Lib.hid (X2.out.later hz)
 replace X3 := Lib.hid (X3.out.later hz)
 replace NG := Lib.hid (NG.out.later hz)
 replace X4 := Lib.hid (X4.out.later hz)
 replace NX := Lib.hid (NX.out.later hz)
 have hk12 := Bt hk10 hz
 clear hk10
 clear EW hz
 generalize wc8.heap.size = pq11 at *
 have cX2 := X2.out.cell; have lX2 := X2.out.lt; have fX2 := X2.out.free
 have cX4 := X4.out.cell; have lX4 := X4.out.lt; have fX4 := X4.out.free
 go_wp2_with fail
 clear cX2 lX2 fX2 cX4 lX4 fX4
 refine (Parts_ok _ _ _ _ _ NB.out NG.out KB.out KG.out G0.out (.inr DD.out)).mono ?_
 rintro e wc13 ⟨vx, vy, rfl, hb13, hq, hr⟩
 obtain ⟨bY, paY, lY, caY, rfl⟩ := hq.agg
 obtain ⟨bV, paV, lV, caV, rfl⟩ := hr.agg
 replace NB := Lib.hid (NB.out.later hb13)
 replace X2 := Lib.hid (X2.out.later hb13)
 replace X3 := Lib.hid (X3.out.later hb13)
 replace NG := Lib.hid (NG.out.later hb13)
 replace X4 := Lib.hid (X4.out.later hb13)
 replace NX := Lib.hid (NX.out.later hb13)
 replace X5 := Lib.hid (X5.out.later hb13)
 have hk15 := Bt hk12 hb13
 clear hk12
 have NY := Lib.hid hq
 clear hb13 hq
 have cX5 := X5.out.cell; have lX5 := X5.out.lt; have fX5 := X5.out.free
 have cX3 := X3.out.cell; have lX3 := X3.out.lt; have fX3 := X3.out.free
 go_upto_region 6 with fail
 clear cX5 lX5 fX5 cX3 lX3 fX3
 have hz : Below wc13.heap.size wc13 ((wc13.alloc (.cells #[.bool bY, .slice paY lY caY] 150)).alloc (.cells #[.bool bV, .slice paV lV caV] 150)) := belA
 obtain ⟨wq16, EW⟩ : ∃ y, ((wc13.alloc (.cells #[.bool bY, .slice paY lY caY] 150)).alloc (.cells #[.bool bV, .slice paV lV caV] 150)) = y := ⟨_, rfl⟩
 have X7 : Hid (Box wq16 (wc13.heap.size) #[.bool bY, .slice paY lY caY] 150) := Lib.hid (by rw [← EW]; exact Box.alloc (Box.new _ _ _) _)
 rw [EW] at hz ⊢
 clear NB
 clear X2
 replace X3 := Lib.hid (X3.out.later hz)
 clear NG
 clear X4
 replace NX := Lib.hid (NX.out.later hz)
 replace X5 := Lib.hid (X5.out.later hz)
 replace NY := Lib.hid (NY.out.later hz)
 have hk17 := Bt hk15 hz
 clear hk15
 clear EW hz
 generalize wc13.heap.size = pq16 at *
 have cX5 := X5.out.cell; have lX5 := X5.out.lt; have fX5 := X5.out.free
 have cX7 := X7.out.cell; have lX7 := X7.out.lt; have fX7 := X7.out.free
 have cX3 := X3.out.cell; have lX3 := X3.out.lt; have fX3 := X3.out.free
 have hres := X3.out
 have cres := hres.cell
 have fres := hres.free
 go_wp2_with fail
 refine ret_c rfl rfl boxA Tryz.underlying152 rfl (by kernel_rfl) ?_
 have hx := Pl.set4 NX.out hres (by decide) (.bool bX) (.slice paX lX caX) (.bool bY) (.slice paY lY caY)
 have hy := Pl.set4 NY.out hres (by decide) (.bool bX) (.slice paX lX caX) (.bool bY) (.slice paY lY caY)
 rw [← E1.out] at hx
 rw [← E2.out] at hy
 exact ⟨_, rfl, belA, _, _, _, _, _, _, _, _, rfl, hx, hy⟩
set_option maxRecDepth 10000 in
set_option maxHeartbeats 4000000 in
theorem Lowest_neg (x y : Value) (n d : Int) (w : World) (hx : Pl w x n) (hy : Pl w y d) (ha : sz 10000 n.natAbs ≤ 274877906944) (hb : sz 10000 d.natAbs ≤ 274877906944) (hd : d < 0) :
  Calls Tryz.prog 158 #[x, y] w (RaPost w ((n : Rat) / (d : Rat))) := by
 obtain ⟨e1, e2⟩ := low_parts (n := -n) (d := -d) (by omega)
 rw [show ((-n : Int) : Rat) / ((-d : Int) : Rat) = (n : Rat) / (d : Rat) by rw [Rat.intCast_neg, Rat.intCast_neg, Rat.div_def, Rat.div_def]; grind, Int.natAbs_neg, Int.natAbs_neg] at e1 e2
 obtain ⟨q, Eq⟩ : ∃ q : Rat, (n : Rat) / (d : Rat) = q := ⟨_, rfl⟩
 rw [Eq] at e1 e2 ⊢
 obtain ⟨bA, paA, lA, caA, rfl⟩ := hx.agg
 obtain ⟨bB, paB, lB, caB, rfl⟩ := hy.agg
 have hbf : bB = true := by rw [hy.nm.2]; simp; omega
 subst hbf
 have NA := Lib.hid hx
 have NB := Lib.hid hy
 have KA := Lib.hid ha
 have KB := Lib.hid hb
 have hg0 : 0 < Nat.gcd n.natAbs d.natAbs := Nat.gcd_pos_of_pos_right _ (by omega)
 have hgd : Nat.gcd n.natAbs d.natAbs ≤ d.natAbs := Nat.le_of_dvd (by omega) (Nat.gcd_dvd_right _ _)
 have dn : ((Nat.gcd n.natAbs d.natAbs : Nat) : Int) ∣ -n := by rw [Int.dvd_neg]; rw [← Int.dvd_natAbs, Int.ofNat_dvd]; exact Nat.gcd_dvd_left _ _
 have dd : ((Nat.gcd n.natAbs d.natAbs : Nat) : Int) ∣ -d := by rw [Int.dvd_neg]; rw [← Int.dvd_natAbs, Int.ofNat_dvd]; exact Nat.gcd_dvd_right _ _
 have HDV := Lib.hid (fun x y W => Divisor_ok x y (-n) (-d) W)
 have KA' : Hid (sz 10000 (-n).natAbs ≤ 274877906944) := Lib.hid (by rw [Int.natAbs_neg]; exact ha)
 have KB' : Hid (sz 10000 (-d).natAbs ≤ 274877906944) := Lib.hid (by rw [Int.natAbs_neg]; exact hb)
 rw [Int.natAbs_neg, Int.natAbs_neg] at HDV
 generalize Nat.gcd n.natAbs d.natAbs = g at *
 have G0 : Hid (0 < (g : Int)) := Lib.hid (by omega)
 have KG : Hid (sz 10000 (g : Int).natAbs ≤ 274877906944) := Lib.hid (Nat.le_trans (sz_mono (by omega) (by simpa using hgd)) hb)
 have DN := Lib.hid dn
 have DD := Lib.hid dd
 have E1 := Lib.hid e1
 have E2 := Lib.hid e2
 clear e1 e2 Eq hx hy ha hb hd hg0 hgd dn dd
 go_enter Tryz.func158, Tryz.ntmps158
 go_wp2_with fail
 have hz : Below w.heap.size w (((w.alloc (.cells #[.bool bA, .slice paA lA caA] 150)).alloc (.cells #[.bool true, .slice paB lB caB] 150)).alloc (.cells #[.bool false, .slice none 0 0, .bool false, .slice none 0 0] 152)) := belA
 obtain ⟨wq1, EW⟩ : ∃ y, (((w.alloc (.cells #[.bool bA, .slice paA lA caA] 150)).alloc (.cells #[.bool true, .slice paB lB caB] 150)).alloc (.cells #[.bool false, .slice none 0 0, .bool false, .slice none 0 0] 152)) = y := ⟨_, rfl⟩
 have X1 : Hid (Box wq1 (w.heap.size) #[.bool bA, .slice paA lA caA] 150) := Lib.hid (by rw [← EW]; exact Box.alloc (Box.alloc (Box.new _ _ _) _) _)
 have X2 : Hid (Box wq1 (w.heap.size + 1) #[.bool true, .slice paB lB caB] 150) := Lib.hid (by rw [← EW]; exact Box.alloc (Box.at1 _ _ _ _) _)
 have X3 : Hid (Box wq1 (w.heap.size + 1 + 1) #[.bool false, .slice none 0 0, .bool false, .slice none 0 0] 152) := Lib.hid (by rw [← EW]; exact Box.at2 _ _ _ _ _)
 rw [EW] at hz ⊢
 replace NA := Lib.hid (NA.out.later hz)
 replace NB := Lib.hid (NB.out.later hz)
 have hk2 := Bt (Below.refl _ _) hz
 clear EW hz
 have cX1 := X1.out.cell; have lX1 := X1.out.lt; have fX1 := X1.out.free
 have cX2 := X2.out.cell; have lX2 := X2.out.lt; have fX2 := X2.out.free
 refine wp_region_walk [(.read, 0), (.read, 2), (.ext, 1), (.ext, 3), (.fin, 4), (.fin, 5)] (by kernel_rfl) (by kernel_rfl) (allocRuns_of (by kernel_rfl)) (fun _ _ _ _ hd h => And.intro (hd.trans (And.left h)) (And.right h)) ?_
 repeat (first | (refine walk_pure0 rfl rfl (fun J hJ => ?_); go_simp; refine hJ _ ?_; clear hJ J) | (refine walk_load rfl rfl rfl rfl (fun J hJ => ?_); go_simp; refine hJ _ ?_; clear hJ J; try go_simp))
 refine walk_ext rfl rfl (fun we3 hb3 J hJ => ?_); go_simp
 have hh3 : Below wq1.heap.size wq1 we3 := belA
 clear hb3
 refine (Turn_ok _ _ _ (NA.out.later hh3)).mono ?_
 rintro e wc4 ⟨v, rfl, hb4, hv5⟩
 obtain ⟨bC, paC, lC, caC, rfl⟩ := hv5.agg
 refine hJ _ _ hb4 ?_
 clear hJ J
 have hh4 := Bt hh3 hb4
 have NC := Lib.hid hv5
 clear hh3 hb4 hv5
 repeat (first | (refine walk_pure0 rfl rfl (fun J hJ => ?_); go_simp; refine hJ _ ?_; clear hJ J) | (refine walk_load rfl rfl rfl rfl (fun J hJ => ?_); go_simp; refine hJ _ ?_; clear hJ J; try go_simp))
 refine walk_ext rfl rfl (fun we6 hb6 J hJ => ?_); go_simp
 have hh6 : Below wq1.heap.size wq1 we6 := Bt hh4 belA
 replace NC := Lib.hid (NC.out.later (show Below wc4.heap.size wc4 we6 from belA))
 clear hb6 hh4
 refine (Turn_ok _ _ _ (NB.out.later hh6)).mono ?_
 rintro e wc7 ⟨v, rfl, hb7, hv8⟩
 obtain ⟨bD, paD, lD, caD, rfl⟩ := hv8.agg
 refine hJ _ _ hb7 ?_
 clear hJ J
 have hh7 := Bt hh6 hb7
 replace NC := Lib.hid (NC.out.later hb7)
 have ND := Lib.hid hv8
 clear hh6 hb7 hv8
 repeat (first | (refine walk_pure0 rfl rfl (fun J hJ => ?_); go_simp; refine hJ _ ?_; clear hJ J) | (refine walk_load rfl rfl rfl rfl (fun J hJ => ?_); go_simp; refine hJ _ ?_; clear hJ J; try go_simp))
 refine walk_fin [_, _] rfl (fun wf9 hf9 => ?_)
 replace NC := Lib.hid (NC.out.later (show Below wc7.heap.size wc7 wf9 from belA))
 replace ND := Lib.hid (ND.out.later (show Below wc7.heap.size wc7 wf9 from belA))
 have hh9 : Below wq1.heap.size wq1 wf9 := Bt hh7 belA
 clear hf9 hh7
 clear cX1 lX1 fX1 cX2 lX2 fX2
 replace NA := Lib.hid (NA.out.later hh9)
 replace NB := Lib.hid (NB.out.later hh9)
 replace X1 := Lib.hid (X1.out.later hh9)
 replace X2 := Lib.hid (X2.out.later hh9)
 replace X3 := Lib.hid (X3.out.later hh9)
 have hk10 := Bt hk2 hh9
 clear hk2
 clear hh9
 have cX1 := X1.out.cell; have lX1 := X1.out.lt; have fX1 := X1.out.free
 have cX2 := X2.out.cell; have lX2 := X2.out.lt; have fX2 := X2.out.free
 go_upto_region 3 with fail
 clear cX1 lX1 fX1 cX2 lX2 fX2
 have hz : Below w.heap.size w ((((wf9.setCell ⟨w.heap.size, 0, none⟩ (.bool bC)).setCell ⟨w.heap.size, 1, none⟩ (.slice paC lC caC)).setCell ⟨w.heap.size + 1, 0, none⟩ (.bool bD)).setCell ⟨w.heap.size + 1, 1, none⟩ (.slice paD lD caD)) := belA
 obtain ⟨wq11, EW⟩ : ∃ y, ((((wf9.setCell ⟨w.heap.size, 0, none⟩ (.bool bC)).setCell ⟨w.heap.size, 1, none⟩ (.slice paC lC caC)).setCell ⟨w.heap.size + 1, 0, none⟩ (.bool bD)).setCell ⟨w.heap.size + 1, 1, none⟩ (.slice paD lD caD)) = y := ⟨_, rfl⟩
 have tX1 := ((((X1.out.set 0 (.bool bC)).set 1 (.slice paC lC caC)).setOther (a := ⟨w.heap.size + 1, 0, none⟩) (.bool bD) (by first | assumption | (simp; done) | (simp; omega))).setOther (a := ⟨w.heap.size + 1, 1, none⟩) (.slice paD lD caD) (by first | assumption | (simp; done) | (simp; omega)))
 have tX2 := ((((X2.out.setOther (a := ⟨w.heap.size, 0, none⟩) (.bool bC) (by first | assumption | (simp; done) | (simp; omega))).setOther (a := ⟨w.heap.size, 1, none⟩) (.slice paC lC caC) (by first | assumption | (simp; done) | (simp; omega))).set 0 (.bool bD)).set 1 (.slice paD lD caD))
 have tX3 := ((((X3.out.setOther (a := ⟨w.heap.size, 0, none⟩) (.bool bC) (by first | assumption | (simp; done) | (simp; omega))).setOther (a := ⟨w.heap.size, 1, none⟩) (.slice paC lC caC) (by first | assumption | (simp; done) | (simp; omega))).setOther (a := ⟨w.heap.size + 1, 0, none⟩) (.bool bD) (by first | assumption | (simp; done) | (simp; omega))).setOther (a := ⟨w.heap.size + 1, 1, none⟩) (.slice paD lD caD) (by first | assumption | (simp; done) | (simp; omega)))
 have tNC := ((((NC.out.setOther X1.out (by decide) 0 (.bool bC)).setOther (X1.out.set 0 (.bool bC)) (by decide) 1 (.slice paC lC caC)).setOther ((X2.out.setOther (a := ⟨w.heap.size, 0, none⟩) (.bool bC) (by first | assumption | (simp; done) | (simp; omega))).setOther (a := ⟨w.heap.size, 1, none⟩) (.slice paC lC caC) (by first | assumption | (simp; done) | (simp; omega))) (by decide) 0 (.bool bD)).setOther (((X2.out.setOther (a := ⟨w.heap.size, 0, none⟩) (.bool bC) (by first | assumption | (simp; done) | (simp; omega))).setOther (a := ⟨w.heap.size, 1, none⟩) (.slice paC lC caC) (by first | assumption | (simp; done) | (simp; omega))).set 0 (.bool bD)) (by decide) 1 (.slice paD lD caD))
 have tND := ((((ND.out.setOther X1.out (by decide) 0 (.bool bC)).setOther (X1.out.set 0 (.bool bC)) (by decide) 1 (.slice paC lC caC)).setOther ((X2.out.setOther (a := ⟨w.heap.size, 0, none⟩) (.bool bC) (by first | assumption | (simp; done) | (simp; omega))).setOther (a := ⟨w.heap.size, 1, none⟩) (.slice paC lC caC) (by first | assumption | (simp; done) | (simp; omega))) (by decide) 0 (.bool bD)).setOther (((X2.out.setOther (a := ⟨w.heap.size, 0, none⟩) (.bool bC) (by first | assumption | (simp; done) | (simp; omega))).setOther (a := ⟨w.heap.size, 1, none⟩) (.slice paC lC caC) (by first | assumption | (simp; done) | (simp; omega))).set 0 (.bool bD)) (by decide) 1 (.slice paD lD caD))
 clear NA
 clear NB
 rw [EW] at tX1
 replace X1 : Hid (Box wq11 (w.heap.size) #[.bool bC, .slice paC lC caC] 150) := Lib.hid tX1
 clear tX1
 rw [EW] at tX2
 replace X2 : Hid (Box wq11 (w.heap.size + 1) #[.bool bD, .slice paD lD caD] 150) := Lib.hid tX2
 clear tX2
 rw [EW] at tX3
 replace X3 : Hid (Box wq11 (w.heap.size + 1 + 1) #[.bool false, .slice none 0 0, .bool false, .slice none 0 0] 152) := Lib.hid tX3
 clear tX3
 rw [EW] at tNC
 replace NC := Lib.hid tNC
 clear tNC
 rw [EW] at tND
 replace ND := Lib.hid tND
 clear tND
 rw [EW] at hz ⊢
 clear EW
 clear hk10
 have hk11 := hz
 clear hz
 have cX1 := X1.out.cell; have lX1 := X1.out.lt; have fX1 := X1.out.free
 have cX2 := X2.out.cell; have lX2 := X2.out.lt; have fX2 := X2.out.free
 go_wp2_with fail
 clear cX1 lX1 fX1 cX2 lX2 fX2
 refine (HDV.out _ _ _ NC.out ND.out KA.out KB.out).mono ?_
 rintro e wc12 ⟨v, rfl, hb12, hv13⟩
 obtain ⟨bG, paG, lG, caG, rfl⟩ := hv13.agg
 replace X1 := Lib.hid (X1.out.later hb12)
 replace X2 := Lib.hid (X2.out.later hb12)
 replace X3 := Lib.hid (X3.out.later hb12)
 replace NC := Lib.hid (NC.out.later hb12)
 replace ND := Lib.hid (ND.out.later hb12)
 have hk14 := Bt hk11 hb12
 clear hk11
 have NG := Lib.hid hv13
 clear hb12 hv13
 have cX1 := X1.out.cell; have lX1 := X1.out.lt; have fX1 := X1.out.free
 go_upto_region 4 with fail
 clear cX1 lX1 fX1
 have hz : Below wc12.heap.size wc12 (wc12.alloc (.cells #[.bool bG, .slice paG lG caG] 150)) := belA
 obtain ⟨wq15, EW⟩ : ∃ y, (wc12.alloc (.cells #[.bool bG, .slice paG lG caG] 150)) = y := ⟨_, rfl⟩
 have X4 : Hid (Box wq15 (wc12.heap.size) #[.bool bG, .slice paG lG caG] 150) := Lib.hid (by rw [← EW]; exact Box.new _ _ _)
 rw [EW] at hz ⊢
 replace X1 := Lib.hid (X1.out.later hz)
 replace X2 := Lib.hid (X2.out.later hz)
 replace X3 := Lib.hid (X3.out.later hz)
 replace NC := Lib.hid (NC.out.later hz)
 replace ND := Lib.hid (ND.out.later hz)
 replace NG := Lib.hid (NG.out.later hz)
 have hk16 := Bt hk14 hz
 clear hk14
 clear EW hz
 generalize wc12.heap.size = pq15 at *
 have cX1 := X1.out.cell; have lX1 := X1.out.lt; have fX1 := X1.out.free
 have cX4 := X4.out.cell; have lX4 := X4.out.lt; have fX4 := X4.out.free
 go_wp2_with fail
 clear cX1 lX1 fX1 cX4 lX4 fX4
 refine (Parts_ok _ _ _ _ _ NC.out NG.out KA'.out KG.out G0.out (.inr DN.out)).mono ?_
 rintro e wc17 ⟨vx, vy, rfl, hb17, hq, hr⟩
 obtain ⟨bX, paX, lX, caX, rfl⟩ := hq.agg
 obtain ⟨bU, paU, lU, caU, rfl⟩ := hr.agg
 replace X1 := Lib.hid (X1.out.later hb17)
 replace X2 := Lib.hid (X2.out.later hb17)
 replace X3 := Lib.hid (X3.out.later hb17)
 replace NC := Lib.hid (NC.out.later hb17)
 replace ND := Lib.hid (ND.out.later hb17)
 replace NG := Lib.hid (NG.out.later hb17)
 replace X4 := Lib.hid (X4.out.later hb17)
 have hk19 := Bt hk16 hb17
 clear hk16
 have NX := Lib.hid hq
 clear hb17 hq
 have cX2 := X2.out.cell; have lX2 := X2.out.lt; have fX2 := X2.out.free
 have cX4 := X4.out.cell; have lX4 := X4.out.lt; have fX4 := X4.out.free
 go_upto_region 5 with fail
 clear cX2 lX2 fX2 cX4 lX4 fX4
 have hz : Below wc17.heap.size wc17 ((wc17.alloc (.cells #[.bool bX, .slice paX lX caX] 150)).alloc (.cells #[.bool bU, .slice paU lU caU] 150)) := belA
 obtain ⟨wq20, EW⟩ : ∃ y, ((wc17.alloc (.cells #[.bool bX, .slice paX lX caX] 150)).alloc (.cells #[.bool bU, .slice paU lU caU] 150)) = y := ⟨_, rfl⟩
 have X5 : Hid (Box wq20 (wc17.heap.size) #[.bool bX, .slice paX lX caX] 150) := Lib.hid (by rw [← EW]; exact Box.alloc (Box.new _ _ _) _)
 rw [EW] at hz ⊢
 clear X1
 replace X2 := Lib.hid (X2.out.later hz)
 replace X3 := Lib.hid (X3.out.later hz)
 clear NC
 replace ND := Lib.hid (ND.out.later hz)
 replace NG := Lib.hid (NG.out.later hz)
 replace X4 := Lib.hid (X4.out.later hz)
 replace NX := Lib.hid (NX.out.later hz)
 have hk21 := Bt hk19 hz
 clear hk19
 clear EW hz
 generalize wc17.heap.size = pq20 at *
 have cX2 := X2.out.cell; have lX2 := X2.out.lt; have fX2 := X2.out.free
 have cX4 := X4.out.cell; have lX4 := X4.out.lt; have fX4 := X4.out.free
 go_wp2_with fail
 clear cX2 lX2 fX2 cX4 lX4 fX4
 refine (Parts_ok _ _ _ _ _ ND.out NG.out KB'.out KG.out G0.out (.inr DD.out)).mono ?_
 rintro e wc22 ⟨vx, vy, rfl, hb22, hq, hr⟩
 obtain ⟨bY, paY, lY, caY, rfl⟩ := hq.agg
 obtain ⟨bV, paV, lV, caV, rfl⟩ := hr.agg
 replace X2 := Lib.hid (X2.out.later hb22)
 replace X3 := Lib.hid (X3.out.later hb22)
 replace ND := Lib.hid (ND.out.later hb22)
 replace NG := Lib.hid (NG.out.later hb22)
 replace X4 := Lib.hid (X4.out.later hb22)
 replace NX := Lib.hid (NX.out.later hb22)
 replace X5 := Lib.hid (X5.out.later hb22)
 have hk24 := Bt hk21 hb22
 clear hk21
 have NY := Lib.hid hq
 clear hb22 hq
 have cX5 := X5.out.cell; have lX5 := X5.out.lt; have fX5 := X5.out.free
 have cX3 := X3.out.cell; have lX3 := X3.out.lt; have fX3 := X3.out.free
 go_upto_region 6 with fail
 clear cX5 lX5 fX5 cX3 lX3 fX3
 have hz : Below wc22.heap.size wc22 ((wc22.alloc (.cells #[.bool bY, .slice paY lY caY] 150)).alloc (.cells #[.bool bV, .slice paV lV caV] 150)) := belA
 obtain ⟨wq25, EW⟩ : ∃ y, ((wc22.alloc (.cells #[.bool bY, .slice paY lY caY] 150)).alloc (.cells #[.bool bV, .slice paV lV caV] 150)) = y := ⟨_, rfl⟩
 have X7 : Hid (Box wq25 (wc22.heap.size) #[.bool bY, .slice paY lY caY] 150) := Lib.hid (by rw [← EW]; exact Box.alloc (Box.new _ _ _) _)
 rw [EW] at hz ⊢
 clear X2
 replace X3 := Lib.hid (X3.out.later hz)
 clear ND
 clear NG
 clear X4
 replace NX := Lib.hid (NX.out.later hz)
 replace X5 := Lib.hid (X5.out.later hz)
 replace NY := Lib.hid (NY.out.later hz)
 have hk26 := Bt hk24 hz
 clear hk24
 clear EW hz
 generalize wc22.heap.size = pq25 at *
 have cX5 := X5.out.cell; have lX5 := X5.out.lt; have fX5 := X5.out.free
 have cX7 := X7.out.cell; have lX7 := X7.out.lt; have fX7 := X7.out.free
 have cX3 := X3.out.cell; have lX3 := X3.out.lt; have fX3 := X3.out.free
 have hres := X3.out
 have cres := hres.cell
 have fres := hres.free
 go_wp2_with fail
 refine ret_c rfl rfl boxA Tryz.underlying152 rfl (by kernel_rfl) ?_
 have hx := Pl.set4 NX.out hres (by decide) (.bool bX) (.slice paX lX caX) (.bool bY) (.slice paY lY caY)
 have hy := Pl.set4 NY.out hres (by decide) (.bool bX) (.slice paX lX caX) (.bool bY) (.slice paY lY caY)
 rw [← E1.out] at hx
 rw [← E2.out] at hy
 exact ⟨_, rfl, belA, _, _, _, _, _, _, _, _, rfl, hx, hy⟩
theorem Lowest_ok (x y : Value) (n d : Int) (w : World) (hx : Pl w x n) (hy : Pl w y d) (ha : sz 10000 n.natAbs ≤ 274877906944) (hb : sz 10000 d.natAbs ≤ 274877906944) (hd : d ≠ 0) :
  Calls Tryz.prog 158 #[x, y] w (RaPost w ((n : Rat) / (d : Rat))) := by
 by_cases h : 0 < d
 ·exact Lowest_pos x y n d w hx hy ha hb h
 ·exact Lowest_neg x y n d w hx hy ha hb (by omega)
end Go.Proofs.verdigrisref02
namespace Go.Proofs.verdigrisref02
open Go Go.RowKit Go.SW Go.Num Go.Mem Go.Proofs Go.Dec Go.Proofs.verdigrisref01 Go.Fra
theorem outV_cases (z : Int) : ∃ (s : ByteArray) (k : Int), outV z = .tuple #[.string s, .int .i64 k] ∧ ((okn z.natAbs = true ∧ k = 0 ∧ s = ⟨(Lib.itoa z).toArray⟩) ∨ (okn z.natAbs = false ∧ k = 6)) := by
 unfold outV
 by_cases h : okn z.natAbs = true
 ·rw [if_pos h]
  exact ⟨_, _, rfl, .inl ⟨h, rfl, rfl⟩⟩
 ·rw [if_neg h]
  exact ⟨_, _, rfl, .inr ⟨by simpa using h, rfl⟩⟩
def FrPost (w : World) (x : Fr × Int) (e : Ending) (w' : World) : Prop := e = .returned (Fr.res x) ∧ Below w.heap.size w w'
set_option maxRecDepth 10000 in
set_option maxHeartbeats 4000000 in
theorem Out_ok (x : Value) (q : Rat) (w : World) (hx : Ra w x q) (h1 : sz 10000 q.num.natAbs ≤ 1073741824) (h2 : sz 10000 q.den ≤ 1073741824) :
  Calls Tryz.prog 109 #[x] w (FrPost w (wr q)) := by
 obtain ⟨bn, pn, ln, cn, bd, pd, ld, cd, rfl, NN, ND⟩ := hx
 obtain ⟨s1, k1, e1, c1⟩ := outV_cases q.num
 obtain ⟨s2, k2, e2, c2⟩ := outV_cases (q.den : Int)
 have H1 := Lib.hid (fun W (hb : Below w.heap.size w W) => verdigrisref01.Out_ok _ q.num W (NN.later hb) h1)
 have H2 := Lib.hid (fun W (hb : Below w.heap.size w W) => verdigrisref01.Out_ok _ (q.den : Int) W (ND.later hb) (by simpa using h2))
 rw [e1] at H1
 rw [e2] at H2
 have hw : wr q = if k1 = 0 ∧ k2 = 0 then (⟨s1, s2⟩, 0) else (Fr.no, 6) := by
  unfold wr okq
  rw [Int.natAbs_natCast] at c2
  rcases c1 with ⟨a1, a2, a3⟩ | ⟨a1, a2⟩ <;> rcases c2 with ⟨b1, b2, b3⟩ | ⟨b1, b2⟩ <;> subst a2 <;> subst b2 <;> rw [a1, b1]
  ·subst a3
   subst b3
   rfl
  ·rfl
  ·rfl
  ·rfl
 rw [hw]
 have d1 : k1 = 0 ∨ k1 = 6 := c1.elim (fun h => .inl h.2.1) (fun h => .inr h.2)
 have d2 : k2 = 0 ∨ k2 = 6 := c2.elim (fun h => .inl h.2.1) (fun h => .inr h.2)
 clear hw e1 e2 c1 c2 h1 h2 NN ND
 rcases d1 with rfl | rfl <;> rcases d2 with rfl | rfl
 ·rw [if_pos ⟨rfl, rfl⟩]
  go_enter Tryz.func109, Tryz.ntmps109
  go_wp2_with fail
  have hz : Below w.heap.size w ((w.alloc (.cells #[.bool bn, .slice pn ln cn, .bool bd, .slice pd ld cd] 152)).alloc (.cells #[.string ⟨#[]⟩, .string ⟨#[]⟩] 36)) := belA
  obtain ⟨wq1, EW⟩ : ∃ y, ((w.alloc (.cells #[.bool bn, .slice pn ln cn, .bool bd, .slice pd ld cd] 152)).alloc (.cells #[.string ⟨#[]⟩, .string ⟨#[]⟩] 36)) = y := ⟨_, rfl⟩
  have X1 : Hid (Box wq1 (w.heap.size) #[.bool bn, .slice pn ln cn, .bool bd, .slice pd ld cd] 152) := Lib.hid (by rw [← EW]; exact Box.alloc (Box.new _ _ _) _)
  have X2 : Hid (Box wq1 (w.heap.size + 1) #[.string ⟨#[]⟩, .string ⟨#[]⟩] 36) := Lib.hid (by rw [← EW]; exact Box.at1 _ _ _ _)
  rw [EW] at hz ⊢
  have hk2 := Bt (Below.refl _ _) hz
  clear EW hz
  refine (H1.out _ hk2).mono ?_
  rintro e wc3 ⟨rfl, hb3⟩
  replace X1 := Lib.hid (X1.out.later hb3)
  replace X2 := Lib.hid (X2.out.later hb3)
  have hk5 := Bt hk2 hb3
  clear hk2
  clear hb3
  have cX1 := X1.out.cell; have lX1 := X1.out.lt; have fX1 := X1.out.free
  go_wp2_with fail
  clear cX1 lX1 fX1
  refine (H2.out _ hk5).mono ?_
  rintro e wc6 ⟨rfl, hb6⟩
  replace X1 := Lib.hid (X1.out.later hb6)
  replace X2 := Lib.hid (X2.out.later hb6)
  have hk8 := Bt hk5 hb6
  clear hk5
  clear hb6
  have cX2 := X2.out.cell; have lX2 := X2.out.lt; have fX2 := X2.out.free
  have hres := X2.out
  have cres := hres.cell
  have fres := hres.free
  go_wp2_with fail
  refine ret_ct rfl rfl boxA Tryz.underlying36 rfl (by kernel_rfl) ?_
  exact ⟨rfl, belA⟩
 ·rw [if_neg (by omega)]
  go_enter Tryz.func109, Tryz.ntmps109
  go_wp2_with fail
  have hz : Below w.heap.size w ((w.alloc (.cells #[.bool bn, .slice pn ln cn, .bool bd, .slice pd ld cd] 152)).alloc (.cells #[.string ⟨#[]⟩, .string ⟨#[]⟩] 36)) := belA
  obtain ⟨wq1, EW⟩ : ∃ y, ((w.alloc (.cells #[.bool bn, .slice pn ln cn, .bool bd, .slice pd ld cd] 152)).alloc (.cells #[.string ⟨#[]⟩, .string ⟨#[]⟩] 36)) = y := ⟨_, rfl⟩
  have X1 : Hid (Box wq1 (w.heap.size) #[.bool bn, .slice pn ln cn, .bool bd, .slice pd ld cd] 152) := Lib.hid (by rw [← EW]; exact Box.alloc (Box.new _ _ _) _)
  have X2 : Hid (Box wq1 (w.heap.size + 1) #[.string ⟨#[]⟩, .string ⟨#[]⟩] 36) := Lib.hid (by rw [← EW]; exact Box.at1 _ _ _ _)
  rw [EW] at hz ⊢
  have hk2 := Bt (Below.refl _ _) hz
  clear EW hz
  refine (H1.out _ hk2).mono ?_
  rintro e wc3 ⟨rfl, hb3⟩
  replace X1 := Lib.hid (X1.out.later hb3)
  replace X2 := Lib.hid (X2.out.later hb3)
  have hk5 := Bt hk2 hb3
  clear hk2
  clear hb3
  have cX1 := X1.out.cell; have lX1 := X1.out.lt; have fX1 := X1.out.free
  go_wp2_with fail
  clear cX1 lX1 fX1
  refine (H2.out _ hk5).mono ?_
  rintro e wc6 ⟨rfl, hb6⟩
  replace X1 := Lib.hid (X1.out.later hb6)
  replace X2 := Lib.hid (X2.out.later hb6)
  have hk8 := Bt hk5 hb6
  clear hk5
  clear hb6
  have cX2 := X2.out.cell; have lX2 := X2.out.lt; have fX2 := X2.out.free
  have hres := X2.out
  have cres := hres.cell
  have fres := hres.free
  go_wp2_with fail
  refine ret_ct rfl rfl boxA Tryz.underlying36 rfl (by kernel_rfl) ?_
  exact ⟨rfl, belA⟩
 ·rw [if_neg (by omega)]
  go_enter Tryz.func109, Tryz.ntmps109
  go_wp2_with fail
  have hz : Below w.heap.size w ((w.alloc (.cells #[.bool bn, .slice pn ln cn, .bool bd, .slice pd ld cd] 152)).alloc (.cells #[.string ⟨#[]⟩, .string ⟨#[]⟩] 36)) := belA
  obtain ⟨wq1, EW⟩ : ∃ y, ((w.alloc (.cells #[.bool bn, .slice pn ln cn, .bool bd, .slice pd ld cd] 152)).alloc (.cells #[.string ⟨#[]⟩, .string ⟨#[]⟩] 36)) = y := ⟨_, rfl⟩
  have X1 : Hid (Box wq1 (w.heap.size) #[.bool bn, .slice pn ln cn, .bool bd, .slice pd ld cd] 152) := Lib.hid (by rw [← EW]; exact Box.alloc (Box.new _ _ _) _)
  have X2 : Hid (Box wq1 (w.heap.size + 1) #[.string ⟨#[]⟩, .string ⟨#[]⟩] 36) := Lib.hid (by rw [← EW]; exact Box.at1 _ _ _ _)
  rw [EW] at hz ⊢
  have hk2 := Bt (Below.refl _ _) hz
  clear EW hz
  refine (H1.out _ hk2).mono ?_
  rintro e wc3 ⟨rfl, hb3⟩
  replace X1 := Lib.hid (X1.out.later hb3)
  replace X2 := Lib.hid (X2.out.later hb3)
  have hk5 := Bt hk2 hb3
  clear hk2
  clear hb3
  have cX1 := X1.out.cell; have lX1 := X1.out.lt; have fX1 := X1.out.free
  go_wp2_with fail
  clear cX1 lX1 fX1
  refine (H2.out _ hk5).mono ?_
  rintro e wc6 ⟨rfl, hb6⟩
  replace X1 := Lib.hid (X1.out.later hb6)
  replace X2 := Lib.hid (X2.out.later hb6)
  have hk8 := Bt hk5 hb6
  clear hk5
  clear hb6
  have cX2 := X2.out.cell; have lX2 := X2.out.lt; have fX2 := X2.out.free
  have hres := X2.out
  have cres := hres.cell
  have fres := hres.free
  go_wp2_with fail
  refine ret_ct rfl rfl boxA Tryz.underlying36 rfl (by kernel_rfl) ?_
  exact ⟨rfl, belA⟩
 ·rw [if_neg (by omega)]
  go_enter Tryz.func109, Tryz.ntmps109
  go_wp2_with fail
  have hz : Below w.heap.size w ((w.alloc (.cells #[.bool bn, .slice pn ln cn, .bool bd, .slice pd ld cd] 152)).alloc (.cells #[.string ⟨#[]⟩, .string ⟨#[]⟩] 36)) := belA
  obtain ⟨wq1, EW⟩ : ∃ y, ((w.alloc (.cells #[.bool bn, .slice pn ln cn, .bool bd, .slice pd ld cd] 152)).alloc (.cells #[.string ⟨#[]⟩, .string ⟨#[]⟩] 36)) = y := ⟨_, rfl⟩
  have X1 : Hid (Box wq1 (w.heap.size) #[.bool bn, .slice pn ln cn, .bool bd, .slice pd ld cd] 152) := Lib.hid (by rw [← EW]; exact Box.alloc (Box.new _ _ _) _)
  have X2 : Hid (Box wq1 (w.heap.size + 1) #[.string ⟨#[]⟩, .string ⟨#[]⟩] 36) := Lib.hid (by rw [← EW]; exact Box.at1 _ _ _ _)
  rw [EW] at hz ⊢
  have hk2 := Bt (Below.refl _ _) hz
  clear EW hz
  refine (H1.out _ hk2).mono ?_
  rintro e wc3 ⟨rfl, hb3⟩
  replace X1 := Lib.hid (X1.out.later hb3)
  replace X2 := Lib.hid (X2.out.later hb3)
  have hk5 := Bt hk2 hb3
  clear hk2
  clear hb3
  have cX1 := X1.out.cell; have lX1 := X1.out.lt; have fX1 := X1.out.free
  go_wp2_with fail
  clear cX1 lX1 fX1
  refine (H2.out _ hk5).mono ?_
  rintro e wc6 ⟨rfl, hb6⟩
  replace X1 := Lib.hid (X1.out.later hb6)
  replace X2 := Lib.hid (X2.out.later hb6)
  have hk8 := Bt hk5 hb6
  clear hk5
  clear hb6
  have cX2 := X2.out.cell; have lX2 := X2.out.lt; have fX2 := X2.out.free
  have hres := X2.out
  have cres := hres.cell
  have fres := hres.free
  go_wp2_with fail
  refine ret_ct rfl rfl boxA Tryz.underlying36 rfl (by kernel_rfl) ?_
  exact ⟨rfl, belA⟩
theorem low_le {n d : Int} (hd : d ≠ 0) : ((n : Rat) / (d : Rat)).num.natAbs ≤ n.natAbs ∧ ((n : Rat) / (d : Rat)).den ≤ d.natAbs := by
 have key : ∀ n d : Int, 0 < d → ((n : Rat) / (d : Rat)).num.natAbs ≤ n.natAbs ∧ ((n : Rat) / (d : Rat)).den ≤ d.natAbs := fun n d hd => by
  obtain ⟨e1, e2⟩ := low_parts (n := n) hd
  have g1 := Nat.gcd_dvd_left n.natAbs d.natAbs
  have g2 := Nat.gcd_dvd_right n.natAbs d.natAbs
  have g0 : 0 < Nat.gcd n.natAbs d.natAbs := Nat.gcd_pos_of_pos_right _ (by omega)
  generalize Nat.gcd n.natAbs d.natAbs = g at *
  generalize ((n : Rat) / (d : Rat)) = q at *
  obtain ⟨a, ha⟩ := g1
  obtain ⟨b, hb⟩ := g2
  have h1 : n = (g : Int) * (if 0 ≤ n then (a : Int) else -(a : Int)) := by
   have := congrArg (fun x : Nat => (x : Int)) ha
   simp only [Int.natCast_mul] at this
   split
   ·omega
   ·rw [Int.mul_neg]; omega
  have h2 : d = (g : Int) * (b : Int) := by
   have := congrArg (fun x : Nat => (x : Int)) hb
   simp only [Int.natCast_mul] at this
   omega
  have h3 : n / (g : Int) = (if 0 ≤ n then (a : Int) else -(a : Int)) := by
   conv => lhs; rw [h1]
   exact Int.mul_ediv_cancel_left _ (by omega)
  have h4 : d / (g : Int) = (b : Int) := by
   rw [h2]
   exact Int.mul_ediv_cancel_left _ (by omega)
  rw [h3] at e1
  rw [h4] at e2
  have k1 : a ≤ g * a := Nat.le_mul_of_pos_left _ g0
  have k2 : b ≤ g * b := Nat.le_mul_of_pos_left _ g0
  refine ⟨?_, ?_⟩
  ·rw [e1, ha]
   split <;> simp <;> exact k1
  ·rw [hb]
   have : q.den = b := by exact_mod_cast e2
   omega
 by_cases h : 0 < d
 ·exact key n d h
 ·have := key (-n) (-d) (by omega)
  rw [show ((-n : Int) : Rat) / ((-d : Int) : Rat) = (n : Rat) / (d : Rat) by rw [Rat.intCast_neg, Rat.intCast_neg, Rat.div_def, Rat.div_def]; grind, Int.natAbs_neg, Int.natAbs_neg] at this
  exact this
theorem sz_i64 {n : Int} (h1 : -9223372036854775808 ≤ n) (h2 : n ≤ 9223372036854775807) : sz 10000 n.natAbs ≤ 5 :=
 sz_le_of_lt (by omega) 5 _ (by omega)
set_option maxRecDepth 10000 in
set_option maxHeartbeats 4000000 in
theorem Quick_ok (n d : Int) (h1 : -9223372036854775808 ≤ n) (h2 : n ≤ 9223372036854775807) (h3 : -9223372036854775808 ≤ d) (h4 : d ≤ 9223372036854775807) (hd : d ≠ 0) (w : World) :
  Calls Tryz.prog 110 #[.int .i64 n, .int .i64 d] w (RaPost w ((n : Rat) / (d : Rat))) := by
 have H1 := Lib.hid (fun W => Integer_ok n W h1 h2)
 have H2 := Lib.hid (fun W => Integer_ok d W h3 h4)
 have H3 := Lib.hid (fun x y W hx hy => Lowest_ok x y n d W hx hy (Nat.le_trans (sz_i64 h1 h2) (by omega)) (Nat.le_trans (sz_i64 h3 h4) (by omega)) hd)
 generalize (n : Rat) / (d : Rat) = q at *
 clear h1 h2 h3 h4 hd
 go_enter Tryz.func110, Tryz.ntmps110
 go_wp2_with fail
 have hz : Below w.heap.size w (w.alloc (.cells #[.bool false, .slice none 0 0, .bool false, .slice none 0 0] 152)) := belA
 obtain ⟨wq1, EW⟩ : ∃ y, (w.alloc (.cells #[.bool false, .slice none 0 0, .bool false, .slice none 0 0] 152)) = y := ⟨_, rfl⟩
 have X1 : Hid (Box wq1 (w.heap.size) #[.bool false, .slice none 0 0, .bool false, .slice none 0 0] 152) := Lib.hid (by rw [← EW]; exact Box.new _ _ _)
 rw [EW] at hz ⊢
 have hk2 := Bt (Below.refl _ _) hz
 clear EW hz
 refine (H1.out _).mono ?_
 rintro e wc3 ⟨v, rfl, hb3, hv4⟩
 obtain ⟨bA, paA, lA, caA, rfl⟩ := hv4.agg
 replace X1 := Lib.hid (X1.out.later hb3)
 have hk5 := Bt hk2 hb3
 clear hk2
 have NA := Lib.hid hv4
 clear hb3 hv4
 go_wp2_with fail
 refine (H2.out _).mono ?_
 rintro e wc6 ⟨v, rfl, hb6, hv7⟩
 obtain ⟨bB, paB, lB, caB, rfl⟩ := hv7.agg
 replace X1 := Lib.hid (X1.out.later hb6)
 replace NA := Lib.hid (NA.out.later hb6)
 have hk8 := Bt hk5 hb6
 clear hk5
 have NB := Lib.hid hv7
 clear hb6 hv7
 go_wp2_with fail
 refine (H3.out _ _ _ NA.out NB.out).mono ?_
 rintro e wc9 ⟨_, rfl, hb9, bn, pn, ln, cn, bd, pd, ld, cd, rfl, hn, hd⟩
 replace X1 := Lib.hid (X1.out.later hb9)
 replace NA := Lib.hid (NA.out.later hb9)
 replace NB := Lib.hid (NB.out.later hb9)
 have hk11 := Bt hk8 hb9
 clear hk8
 have NX := Lib.hid hn
 have NY := Lib.hid hd
 clear hb9 hd hn
 have cX1 := X1.out.cell; have lX1 := X1.out.lt; have fX1 := X1.out.free
 have hres := X1.out
 have cres := hres.cell
 have fres := hres.free
 go_wp2_with fail
 refine ret_c rfl rfl boxA Tryz.underlying152 rfl (by kernel_rfl) ?_
 have hx := Pl.set4 NX.out hres (by decide) (.bool bn) (.slice pn ln cn) (.bool bd) (.slice pd ld cd)
 have hy := Pl.set4 NY.out hres (by decide) (.bool bn) (.slice pn ln cn) (.bool bd) (.slice pd ld cd)
 exact ⟨_, rfl, belA, _, _, _, _, _, _, _, _, rfl, hx, hy⟩
set_option maxRecDepth 10000 in
set_option maxHeartbeats 4000000 in
theorem Of_ok (n d : Int) (h1 : -9223372036854775808 ≤ n) (h2 : n ≤ 9223372036854775807) (h3 : -9223372036854775808 ≤ d) (h4 : d ≤ 9223372036854775807) (w : World) :
  Calls Tryz.prog 46 #[.int .i64 n, .int .i64 d] w (FrPost w (ofF n d)) := by
 unfold ofF
 by_cases hd : d = 0
 ·subst hd
  rw [if_pos rfl]
  clear h1 h2 h3 h4
  go_enter Tryz.func46, Tryz.ntmps46
  go_wp2_with fail
  refine ret_ct rfl rfl boxA Tryz.underlying36 rfl (by kernel_rfl) ?_
  exact ⟨rfl, belA⟩
 ·rw [if_neg hd]
  have H1 := Lib.hid (fun W => Quick_ok n d h1 h2 h3 h4 hd W)
  obtain ⟨l1, l2⟩ := low_le (n := n) hd
  have H2 := Lib.hid (fun x W hx => Out_ok x ((n : Rat) / (d : Rat)) W hx (Nat.le_trans (sz_mono (by omega) l1) (Nat.le_trans (sz_i64 h1 h2) (by omega))) (Nat.le_trans (sz_mono (by omega) l2) (Nat.le_trans (sz_i64 h3 h4) (by omega))))
  clear l1 l2
  generalize (n : Rat) / (d : Rat) = q at *
  obtain ⟨⟨⟨s1, s2⟩, k⟩, E⟩ : ∃ y, wr q = y := ⟨_, rfl⟩
  rw [E] at H2 ⊢
  replace H2 : Hid (∀ x W, Ra W x q → Calls Tryz.prog 109 #[x] W (fun e w' => e = .returned (.tuple #[.agg #[.string s1, .string s2], .int .i64 k]) ∧ Below W.heap.size W w')) := H2
  clear E h1 h2 h3 h4
  go_enter Tryz.func46, Tryz.ntmps46
  go_wp2_with fail
  have hz : Below w.heap.size w (w.alloc (.cells #[.string ⟨#[]⟩, .string ⟨#[]⟩] 36)) := belA
  obtain ⟨wq1, EW⟩ : ∃ y, (w.alloc (.cells #[.string ⟨#[]⟩, .string ⟨#[]⟩] 36)) = y := ⟨_, rfl⟩
  have X1 : Hid (Box wq1 (w.heap.size) #[.string ⟨#[]⟩, .string ⟨#[]⟩] 36) := Lib.hid (by rw [← EW]; exact Box.new _ _ _)
  rw [EW] at hz ⊢
  have hk2 := Bt (Below.refl _ _) hz
  clear EW hz
  refine (H1.out _).mono ?_
  rintro e wc3 ⟨vq, rfl, hb3, hq⟩
  replace X1 := Lib.hid (X1.out.later hb3)
  have hk5 := Bt hk2 hb3
  clear hk2
  have NQ := Lib.hid hq
  clear hb3 hq
  go_wp2_with fail
  refine (H2.out _ _ NQ.out).mono ?_
  rintro e wc6 ⟨rfl, hb6⟩
  replace X1 := Lib.hid (X1.out.later hb6)
  replace NQ := Lib.hid (NQ.out.later hb6)
  have hk8 := Bt hk5 hb6
  clear hk5
  clear hb6
  have cX1 := X1.out.cell; have lX1 := X1.out.lt; have fX1 := X1.out.free
  have hres := X1.out
  have cres := hres.cell
  have fres := hres.free
  go_wp2_with fail
  refine ret_ct rfl rfl boxA Tryz.underlying36 rfl (by kernel_rfl) ?_
  exact ⟨rfl, belA⟩
end Go.Proofs.verdigrisref02
namespace Go.Proofs.adapt
open Go Go.Num Go.Fra Go.Proofs.matrix
/-- The fraction q can be written with numbers of at most 10 to the k. -/
def Ht (k : Nat) (q : Rat) : Prop := ∃ n d : Int, 0 < d ∧ d.natAbs ≤ tenTo k ∧ n.natAbs ≤ tenTo k ∧ q = (n : Rat) / (d : Rat)
theorem tenTo_pos (k : Nat) : 0 < tenTo k := Nat.pow_pos (by omega)
theorem tenTo_mul (a b : Nat) : tenTo (a + b) = tenTo a * tenTo b := Nat.pow_add _ _ _
theorem tenTo_mono {a b : Nat} (h : a ≤ b) : tenTo a ≤ tenTo b := Nat.pow_le_pow_right (by omega) h
theorem tenTo_lt {a b : Nat} (h : a < b) : tenTo a < tenTo b := Nat.pow_lt_pow_right (by omega) h
theorem Ht.mono {a b : Nat} {q : Rat} (h : Ht a q) (k : a ≤ b) : Ht b q := by
 obtain ⟨n, d, h1, h2, h3, h4⟩ := h
 have := tenTo_mono k
 exact ⟨n, d, h1, by omega, by omega, h4⟩
theorem Ht.ok {a : Nat} {q : Rat} (h : Ht a q) (k : a < 600) : okq q = true := by
 obtain ⟨n, d, h1, h2, h3, rfl⟩ := h
 obtain ⟨l1, l2⟩ := verdigrisref02.low_le (n := n) (d := d) (by omega)
 have := tenTo_lt k
 unfold okq okn
 generalize tenTo 600 = X at *
 rw [Bool.and_eq_true]
 exact ⟨decide_eq_true (by omega), decide_eq_true (by omega)⟩
theorem cast_ne {d : Int} (h : 0 < d) : (d : Rat) ≠ 0 := fun e => by
 have : d = 0 := by exact_mod_cast e
 omega
theorem Ht.mul {a b : Nat} {p q : Rat} (h : Ht a p) (k : Ht b q) : Ht (a + b) (p * q) := by
 obtain ⟨n, d, h1, h2, h3, rfl⟩ := h
 obtain ⟨n', d', k1, k2, k3, rfl⟩ := k
 refine ⟨n * n', d * d', Int.mul_pos h1 k1, ?_, ?_, ?_⟩
 ·rw [tenTo_mul, Int.natAbs_mul]; exact Nat.mul_le_mul h2 k2
 ·rw [tenTo_mul, Int.natAbs_mul]; exact Nat.mul_le_mul h3 k3
 ·have e1 := cast_ne h1
  have e2 := cast_ne k1
  rw [Rat.intCast_mul, Rat.intCast_mul]
  grind
theorem Ht.add {a b : Nat} {p q : Rat} (h : Ht a p) (k : Ht b q) : Ht (a + b + 1) (p + q) := by
 obtain ⟨n, d, h1, h2, h3, rfl⟩ := h
 obtain ⟨n', d', k1, k2, k3, rfl⟩ := k
 have t : tenTo (a + b + 1) = 10 * (tenTo a * tenTo b) := by rw [tenTo_mul, tenTo_mul]; show _ * 10 = _; omega
 refine ⟨n * d' + n' * d, d * d', Int.mul_pos h1 k1, ?_, ?_, ?_⟩
 ·have := Nat.mul_le_mul h2 k2
  rw [t, Int.natAbs_mul]; omega
 ·have x1 := Nat.mul_le_mul h3 k2
  have x2 := Nat.mul_le_mul k3 h2
  rw [Nat.mul_comm (tenTo b)] at x2
  have x3 := Int.natAbs_add_le (n * d') (n' * d)
  rw [Int.natAbs_mul, Int.natAbs_mul] at x3
  rw [t]; omega
 ·have e1 := cast_ne h1
  have e2 := cast_ne k1
  rw [Rat.intCast_add, Rat.intCast_mul, Rat.intCast_mul, Rat.intCast_mul]
  grind
theorem Ht.neg {a : Nat} {p : Rat} (h : Ht a p) : Ht a (-p) := by
 obtain ⟨n, d, h1, h2, h3, rfl⟩ := h
 exact ⟨-n, d, h1, h2, by rw [Int.natAbs_neg]; exact h3, by rw [Rat.intCast_neg]; grind⟩
theorem Ht.sub {a b : Nat} {p q : Rat} (h : Ht a p) (k : Ht b q) : Ht (a + b + 1) (p - q) := by
 rw [Rat.sub_eq_add_neg]
 exact h.add k.neg
theorem Ht.zero : Ht 0 0 := ⟨0, 1, by omega, by decide, by decide, by decide +kernel⟩
theorem Ht.one : Ht 0 1 := ⟨1, 1, by omega, by decide, by decide, by decide +kernel⟩
theorem Ht.inv {a : Nat} {p : Rat} (h : Ht a p) : Ht a (p⁻¹) := by
 obtain ⟨n, d, h1, h2, h3, rfl⟩ := h
 have e1 := cast_ne h1
 rcases Int.lt_trichotomy n 0 with h | rfl | h
 ·have e2 : ((-n : Int) : Rat) ≠ 0 := cast_ne (by omega)
  rw [Rat.intCast_neg] at e2
  refine ⟨-d, -n, by omega, by omega, by omega, ?_⟩
  rw [Rat.intCast_neg, Rat.intCast_neg]
  grind
 ·exact ⟨0, 1, by omega, by have := tenTo_pos a; omega, by have := tenTo_pos a; omega, by simp [Rat.div_def]⟩
 ·have e2 := cast_ne h
  exact ⟨d, n, h, h3, h2, by grind⟩
theorem Ht.div {a b : Nat} {p q : Rat} (h : Ht a p) (k : Ht b q) : Ht (a + b) (p / q) := by
 rw [Rat.div_def]
 exact h.mul k.inv
/-- Three sums of three. -/
def app3 (f : Nat → Nat → Rat) (t : Nat → Rat) (i : Nat) : Rat := f i 0 * t 0 + f i 1 * t 1 + f i 2 * t 2
theorem seen_mk (f : Nat → Nat → Rat) (t : Nat → Rat) (i : Nat) (hi : i < 3) : seenQ (mk3 f) t i = app3 f t i := by
 have : i = 0 ∨ i = 1 ∨ i = 2 := by omega
 rcases this with rfl | rfl | rfl <;> exact dot3 _ _ _ _ _ _
theorem app3_mul (f g : Nat → Nat → Rat) (t : Nat → Rat) (i : Nat) : app3 (mul3 f g) t i = app3 f (app3 g t) i := by
 unfold app3 mul3
 grind
theorem app3_congr {f g : Nat → Nat → Rat} {s t : Nat → Rat} {i : Nat} (h : ∀ j, j < 3 → f i j = g i j) (k : ∀ j, j < 3 → s j = t j) : app3 f s i = app3 g t i := by
 unfold app3
 rw [h 0 (by omega), h 1 (by omega), h 2 (by omega), k 0 (by omega), k 1 (by omega), k 2 (by omega)]
theorem app3_one (t : Nat → Rat) (i : Nat) (hi : i < 3) : app3 one3 t i = t i := by
 have : i = 0 ∨ i = 1 ∨ i = 2 := by omega
 rcases this with rfl | rfl | rfl <;> simp [app3, one3, Rat.add_zero, Rat.zero_add]
theorem mul3_assoc (f g h : Nat → Nat → Rat) (i j : Nat) : mul3 (mul3 f g) h i j = mul3 f (mul3 g h) i j := by
 unfold mul3
 grind
theorem mul3_congr {f g f' g' : Nat → Nat → Rat} {i j : Nat} (h : ∀ j, j < 3 → f i j = f' i j) (k : ∀ i, i < 3 → g i j = g' i j) : mul3 f g i j = mul3 f' g' i j := by
 unfold mul3
 rw [h 0 (by omega), h 1 (by omega), h 2 (by omega), k 0 (by omega), k 1 (by omega), k 2 (by omega)]
theorem mul3_one (f : Nat → Nat → Rat) (i j : Nat) (hj : j < 3) : mul3 f one3 i j = f i j := by
 have : j = 0 ∨ j = 1 ∨ j = 2 := by omega
 rcases this with rfl | rfl | rfl <;> simp [mul3, one3, Rat.add_zero, Rat.zero_add]
theorem one3_mul (f : Nat → Nat → Rat) (i j : Nat) (hi : i < 3) : mul3 one3 f i j = f i j := by
 have : i = 0 ∨ i = 1 ∨ i = 2 := by omega
 rcases this with rfl | rfl | rfl <;> simp [mul3, one3, Rat.add_zero, Rat.zero_add]
/-- The gains on the diagonal. -/
def dg (g : Nat → Rat) (i j : Nat) : Rat := if j = i then g i else 0
/-- The inverse of a cone. -/
def ciQ (m : Nat) : Nat → Nat → Rat := invQ (coneR m)
theorem cone_left : ∀ m, m < 4 → ∀ i, i < 3 → ∀ j, j < 3 → mul3 (ciQ m) (coneQ m) i j = one3 i j := by decide +kernel
theorem cone_right : ∀ m, m < 4 → ∀ i, i < 3 → ∀ j, j < 3 → mul3 (coneQ m) (ciQ m) i j = one3 i j := by decide +kernel
theorem ci_small : ∀ m, m < 4 → ∀ i, i < 3 → ∀ j, j < 3 → (ciQ m i j).num.natAbs ≤ 100000000000000000000 ∧ (ciQ m i j).den ≤ 100000000000000000000 := by decide +kernel
theorem cone_small : ∀ m, m < 4 → ∀ i, i < 3 → ∀ j, j < 3 → (coneQ m i j).num.natAbs ≤ 1000000 ∧ (coneQ m i j).den ≤ 1000000 := by decide +kernel
theorem Ht.of_parts {q : Rat} {k : Nat} (h1 : q.num.natAbs ≤ tenTo k) (h2 : q.den ≤ tenTo k) : Ht k q :=
 ⟨q.num, q.den, by have := q.den_pos; omega, by simpa using h2, h1, by have := Rat.mkRat_self q; rw [Rat.mkRat_eq_div] at this; exact this.symm⟩
theorem ci_ht {m i j : Nat} (hm : m < 4) (hi : i < 3) (hj : j < 3) : Ht 20 (ciQ m i j) := by
 obtain ⟨h1, h2⟩ := ci_small m hm i hi j hj
 exact .of_parts (Nat.le_trans h1 (by decide)) (Nat.le_trans h2 (by decide))
theorem cone_ht {m i j : Nat} (hm : m < 4) (hi : i < 3) (hj : j < 3) : Ht 6 (coneQ m i j) := by
 obtain ⟨h1, h2⟩ := cone_small m hm i hi j hj
 exact .of_parts (Nat.le_trans h1 (by decide)) (Nat.le_trans h2 (by decide))
/-- The matrix of an adaptation with these gains. -/
def mG (m : Nat) (g : Nat → Rat) : Nat → Nat → Rat := mul3 (mul3 (ciQ m) (dg g)) (coneQ m)
theorem mul_dg (f : Nat → Nat → Rat) (g : Nat → Rat) (i j : Nat) (hj : j < 3) : mul3 f (dg g) i j = f i j * g j := by
 have : j = 0 ∨ j = 1 ∨ j = 2 := by omega
 rcases this with rfl | rfl | rfl <;> simp [mul3, dg, Rat.add_zero, Rat.zero_add]
theorem app_dg (g t : Nat → Rat) (i : Nat) (hi : i < 3) : app3 (dg g) t i = g i * t i := by
 have : i = 0 ∨ i = 1 ∨ i = 2 := by omega
 rcases this with rfl | rfl | rfl <;> simp [app3, dg, Rat.add_zero, Rat.zero_add]
theorem mG_eq (m : Nat) (g : Nat → Rat) (i j : Nat) : mG m g i j = ciQ m i 0 * g 0 * coneQ m 0 j + ciQ m i 1 * g 1 * coneQ m 1 j + ciQ m i 2 * g 2 * coneQ m 2 j := by
 unfold mG
 show mul3 (ciQ m) (dg g) i 0 * _ + mul3 (ciQ m) (dg g) i 1 * _ + mul3 (ciQ m) (dg g) i 2 * _ = _
 rw [mul_dg _ _ _ _ (by omega), mul_dg _ _ _ _ (by omega), mul_dg _ _ _ _ (by omega)]
theorem mG_congr {m : Nat} {g g' : Nat → Rat} (h : ∀ i, i < 3 → g i = g' i) (i j : Nat) : mG m g i j = mG m g' i j := by
 rw [mG_eq, mG_eq, h 0 (by omega), h 1 (by omega), h 2 (by omega)]
theorem mG_ht {m : Nat} (hm : m < 4) {g : Nat → Rat} {a : Nat} (hg : ∀ i, i < 3 → Ht a (g i)) {i j : Nat} (hi : i < 3) (hj : j < 3) : Ht (3 * a + 80) (mG m g i j) := by
 rw [mG_eq]
 have k : ∀ x, x < 3 → Ht (20 + a + 6) (ciQ m i x * g x * coneQ m x j) := fun x hx => ((ci_ht hm hi hx).mul (hg x hx)).mul (cone_ht hm hx hj)
 exact (((k 0 (by omega)).add (k 1 (by omega))).add (k 2 (by omega))).mono (by omega)
/-- Adaptations one after the other. -/
theorem mG_mul {m : Nat} (hm : m < 4) (g g' : Nat → Rat) (i j : Nat) : mul3 (mG m g) (mG m g') i j = mG m (fun x => g x * g' x) i j := by
 have h1 : mul3 (mG m g) (mG m g') i j = mul3 (mul3 (ciQ m) (dg g)) (mul3 (mul3 (coneQ m) (ciQ m)) (mul3 (dg g') (coneQ m))) i j := by
  unfold mG mul3
  grind
 have h2 : ∀ x, x < 3 → mul3 (mul3 (coneQ m) (ciQ m)) (mul3 (dg g') (coneQ m)) x j = mul3 (dg g') (coneQ m) x j := fun x hx => by
  rw [mul3_congr (f' := one3) (g' := mul3 (dg g') (coneQ m)) (cone_right m hm x hx) (fun _ _ => rfl), one3_mul _ _ _ hx]
 rw [h1, mul3_congr (f' := mul3 (ciQ m) (dg g)) (g' := mul3 (dg g') (coneQ m)) (fun _ _ => rfl) h2, mG_eq]
 have h3 : ∀ x, x < 3 → mul3 (dg g') (coneQ m) x j = g' x * coneQ m x j := fun x hx => by
  have : x = 0 ∨ x = 1 ∨ x = 2 := by omega
  rcases this with rfl | rfl | rfl <;> simp [mul3, dg, Rat.add_zero, Rat.zero_add]
 show mul3 (ciQ m) (dg g) i 0 * mul3 (dg g') (coneQ m) 0 j + mul3 (ciQ m) (dg g) i 1 * mul3 (dg g') (coneQ m) 1 j + mul3 (ciQ m) (dg g) i 2 * mul3 (dg g') (coneQ m) 2 j = _
 rw [mul_dg _ _ _ _ (by omega), mul_dg _ _ _ _ (by omega), mul_dg _ _ _ _ (by omega), h3 0 (by omega), h3 1 (by omega), h3 2 (by omega)]
 grind
theorem mG_one {m : Nat} (hm : m < 4) {g : Nat → Rat} (hg : ∀ i, i < 3 → g i = 1) {i j : Nat} (hi : i < 3) (hj : j < 3) : mG m g i j = one3 i j := by
 rw [mG_eq, hg 0 (by omega), hg 1 (by omega), hg 2 (by omega), Rat.mul_one, Rat.mul_one, Rat.mul_one]
 exact cone_left m hm i hi j hj
theorem mG_det {m : Nat} (hm : m < 4) (g : Nat → Rat) : detR (mG m g) = g 0 * g 1 * g 2 := by
 have h1 : detR (mG m g) = detR (ciQ m) * detR (dg g) * detR (coneQ m) := by unfold mG; rw [mul3_det, mul3_det]
 have h2 : detR (ciQ m) * detR (coneQ m) = 1 := by
  rw [← mul3_det, det_congr (cone_left m hm), one3_det]
 have h3 : detR (dg g) = g 0 * g 1 * g 2 := by
  unfold detR dg
  simp
  grind
 rw [h1, h3]
 grind
/-- The inverse of an adaptation. -/
theorem mG_inv {m : Nat} (hm : m < 4) (g g' : Nat → Rat) (h : ∀ i, i < 3 → g i * g' i = 1) : (elimQ (mk3 (mG m g))).1 ≠ 0 ∧ invM (mk3 (mG m g)) = mk3 (mG m g') := by
 obtain ⟨h1, h2⟩ := inv3 (mG m g)
 have h0 : (elimQ (mk3 (mG m g))).1 ≠ 0 := fun e => by
  have := h1.1 e
  rw [mG_det hm] at this
  have k0 := h 0 (by omega)
  have k1 := h 1 (by omega)
  have k2 := h 2 (by omega)
  grind
 refine ⟨h0, ?_⟩
 have h3 := h2 h0
 refine mk3_congr fun i hi j hj => ?_
 have e1 : mul3 (mul3 (mG m g') (mG m g)) (invQ (mk3 (mG m g))) i j = invQ (mk3 (mG m g)) i j := by
  rw [mul3_congr (f' := one3) (g' := invQ (mk3 (mG m g))) (fun y hy => by rw [mG_mul hm]; exact mG_one hm (fun x hx => by rw [Rat.mul_comm]; exact h x hx) hi hy) (fun _ _ => rfl), one3_mul _ _ _ hi]
 rw [← e1, mul3_assoc, mul3_congr (f' := mG m g') (g' := one3) (fun _ _ => rfl) (fun y hy => h3 y hy j hj), mul3_one _ _ _ hj]
theorem mG_sing {m : Nat} (hm : m < 4) (g : Nat → Rat) (h : ∃ i, i < 3 ∧ g i = 0) : (elimQ (mk3 (mG m g))).1 = 0 := by
 refine (inv3 (mG m g)).1.2 ?_
 rw [mG_det hm]
 obtain ⟨i, hi, e⟩ := h
 have : i = 0 ∨ i = 1 ∨ i = 2 := by omega
 rcases this with rfl | rfl | rfl <;> rw [e] <;> grind
theorem allQ_mk {f : Nat → Nat → Rat} (h : ∀ i, i < 3 → ∀ j, j < 3 → okq (f i j) = true) : allQ (mk3 f) = true := by
 show ((okq (f 0 0) && (okq (f 0 1) && (okq (f 0 2) && true))) && ((okq (f 1 0) && (okq (f 1 1) && (okq (f 1 2) && true))) && ((okq (f 2 0) && (okq (f 2 1) && (okq (f 2 2) && true))) && true))) = true
 rw [h 0 (by omega) 0 (by omega), h 0 (by omega) 1 (by omega), h 0 (by omega) 2 (by omega), h 1 (by omega) 0 (by omega), h 1 (by omega) 1 (by omega), h 1 (by omega) 2 (by omega), h 2 (by omega) 0 (by omega), h 2 (by omega) 1 (by omega), h 2 (by omega) 2 (by omega)]
 rfl
end Go.Proofs.adapt
namespace Go.Proofs.adapt
open Go Go.Num Go.Fra Go.Proofs.matrix
/-- Small positive numbers. -/
def Wh (t : Nat → Rat) : Prop := ∀ i, i < 3 → Ht 4 (t i) ∧ 0 < t i
theorem Wh.ok {t : Nat → Rat} (h : Wh t) (i : Nat) (hi : i < 3) : okq (t i) = true := (h i hi).1.ok (by omega)
theorem Wh.cmp {t : Nat → Rat} (h : Wh t) (i : Nat) (hi : i < 3) : cmpq (t i) 0 = 1 := by
 have := (h i hi).2
 unfold cmpq
 rw [if_neg (by grind), if_pos this]
theorem Wh.chk {t : Nat → Rat} (h : Wh t) : chkL (tri3 t).list = 0 := by
 unfold chkL
 rw [if_pos]
 show ((rd (Fr.of (t 0))).isSome && ((rd (Fr.of (t 1))).isSome && ((rd (Fr.of (t 2))).isSome && true))) = true
 rw [rd_of (h.ok 0 (by omega)), rd_of (h.ok 1 (by omega)), rd_of (h.ok 2 (by omega))]
 rfl
theorem Wh.chkT {t : Nat → Rat} (h : Wh t) : light.chkT (tri3 t) = 0 := by
 unfold light.chkT
 rw [if_pos h.chk, if_pos]
 show (decide (0 ≤ (sgnF (Fr.of (t 0))).1) && (decide (0 ≤ (sgnF (Fr.of (t 1))).1) && (decide (0 ≤ (sgnF (Fr.of (t 2))).1) && true))) = true
 rw [sgnF_of (h.ok 0 (by omega)), sgnF_of (h.ok 1 (by omega)), sgnF_of (h.ok 2 (by omega)), h.cmp 0 (by omega), h.cmp 1 (by omega), h.cmp 2 (by omega)]
 rfl
theorem Wh.snd {t : Nat → Rat} (h : Wh t) : light.sndT (tri3 t) = 0 := by
 unfold light.sndT
 rw [if_pos h.chkT, if_pos]
 show (decide ((sgnF (Fr.of (t 0))).1 ≠ 0) && (decide ((sgnF (Fr.of (t 1))).1 ≠ 0) && (decide ((sgnF (Fr.of (t 2))).1 ≠ 0) && true))) = true
 rw [sgnF_of (h.ok 0 (by omega)), sgnF_of (h.ok 1 (by omega)), sgnF_of (h.ok 2 (by omega)), h.cmp 0 (by omega), h.cmp 1 (by omega), h.cmp 2 (by omega)]
 rfl
theorem qF_fr {q : Rat} (h : okq q = true) : qF (Fr.of q) = q := by unfold qF; rw [rd_of h]; rfl
theorem Wh.q {t : Nat → Rat} (h : Wh t) (i : Nat) (hi : i < 3) : qT (tri3 t) i = t i := by
 have : i = 0 ∨ i = 1 ∨ i = 2 := by omega
 rcases this with rfl | rfl | rfl <;> exact qF_fr (h.ok _ hi)
def resp (m : Nat) (t : Nat → Rat) (i : Nat) : Rat := app3 (coneQ m) t i
theorem resp_ht {m : Nat} (hm : m < 4) {t : Nat → Rat} (h : Wh t) {i : Nat} (hi : i < 3) : Ht 32 (resp m t i) := by
 have k : ∀ x, x < 3 → Ht 10 (coneQ m i x * t x) := fun x hx => (cone_ht hm hi hx).mul (h x hx).1
 exact ((k 0 (by omega)).add (k 1 (by omega))).add (k 2 (by omega))
theorem respQ_eq {m : Nat} {t : Nat → Rat} (h : Wh t) (i : Nat) (hi : i < 3) : respQ ((m : Int) + 1) (tri3 t) i = resp m t i := by
 unfold respQ
 rw [show ((m : Int) + 1 - 1).toNat = m by omega]
 refine (seen_mk (coneQ m) _ i hi).trans (app3_congr (fun _ _ => rfl) fun j hj => h.q j hj)
/-- The gains between two whites. -/
def gn (m : Nat) (d : Rat) (s t : Nat → Rat) (i : Nat) : Rat := gainQ d (resp m s i) (resp m t i)
theorem gn_ht {m : Nat} (hm : m < 4) {s t : Nat → Rat} (hs : Wh s) (ht : Wh t) {d : Rat} (hd : Ht 10 d) {i : Nat} (hi : i < 3) : Ht 86 (gn m d s t i) :=
 (hd.mul ((resp_ht hm ht hi).div (resp_ht hm hs hi))).add (Ht.one.sub hd)
theorem gn_ok {m : Nat} (hm : m < 4) {s t : Nat → Rat} (hs : Wh s) (ht : Wh t) {d : Rat} (hd : Ht 10 d) {i : Nat} (hi : i < 3) : gainOk d (resp m s i) (resp m t i) = true := by
 have h1 := (resp_ht hm ht hi).div (resp_ht hm hs hi)
 have h2 := hd.mul h1
 have h3 := Ht.one.sub hd
 have h4 := h2.add h3
 unfold gainOk gainQ
 rw [h1.ok (by omega), h2.ok (by omega), h3.ok (by omega), h4.ok (by omega)]
 rfl
theorem zero3_congr {f g : Nat → Rat} (h : ∀ i, i < 3 → f i = g i) : zero3 f = zero3 g := by
 unfold zero3
 rw [h 0 (by omega), h 1 (by omega), h 2 (by omega)]
theorem all3_of {f : Nat → Rat} (h : ∀ i, i < 3 → okq (f i) = true) : all3 f = true := by
 unfold all3
 rw [h 0 (by omega), h 1 (by omega), h 2 (by omega)]
 rfl
theorem cmpq_ge {p q : Rat} (h : q ≤ p) : ¬ cmpq p q < 0 := by
 unfold cmpq
 rw [if_neg (by grind)]
 split <;> omega
theorem cmpq_le {p q : Rat} (h : p ≤ q) : ¬ 0 < cmpq p q := by
 unfold cmpq
 split
 ·omega
 ·rw [if_neg (by grind)]
  omega
theorem gainsE_at {m : Nat} (hm : m < 4) {s t : Nat → Rat} (hs : Wh s) (ht : Wh t) {d : Rat} (hd : Ht 10 d) (d0 : 0 ≤ d) (d1 : d ≤ 1) :
  gainsE ((m : Int) + 1) (tri3 s) (tri3 t) (Fr.of d) = if zero3 (resp m s) then 7 else 0 := by
 have hok := hd.ok (by omega)
 have ha : argsE ((m : Int) + 1) (tri3 s) (tri3 t) (Fr.of d) = 0 := by
  unfold argsE
  have hc : coneE ((m : Int) + 1) = 0 := by unfold coneE; rw [if_neg (by omega)]
  have hk : chk (Fr.of d) = 0 := chk_zero (by rw [rd_of hok]; rfl)
  rw [hc, hs.snd, ht.snd, hk, qF_fr hok]
  simp only [ne_eq, not_true_eq_false, if_false]
  rw [if_neg]
  intro h
  rcases h with h | h
  ·exact cmpq_ge d0 h
  ·exact cmpq_le d1 h
 unfold gainsE
 rw [ha, if_neg (by omega), all3_of (f := respQ ((m : Int) + 1) (tri3 s)) (fun i hi => by rw [respQ_eq hs i hi]; exact (resp_ht hm hs hi).ok (by omega)),
  all3_of (f := respQ ((m : Int) + 1) (tri3 t)) (fun i hi => by rw [respQ_eq ht i hi]; exact (resp_ht hm ht hi).ok (by omega)),
  if_neg (by decide), if_neg (by decide), zero3_congr (respQ_eq hs), qF_fr hok,
  respQ_eq hs 0 (by omega), respQ_eq hs 1 (by omega), respQ_eq hs 2 (by omega), respQ_eq ht 0 (by omega), respQ_eq ht 1 (by omega), respQ_eq ht 2 (by omega),
  gn_ok hm hs ht hd (i := 0) (by omega), gn_ok hm hs ht hd (i := 1) (by omega), gn_ok hm hs ht hd (i := 2) (by omega)]
 simp
theorem mk3_ok {f : Nat → Nat → Rat} (h : ∀ i, i < 3 → ∀ j, j < 3 → okq (f i j) = true) : (mk3 f).ok 3 := by
 refine ⟨by show 1 ≤ 3; omega, by show 3 ≤ 4; omega, by omega, by omega, fun r hr => ?_⟩
 obtain ⟨i, hi, rfl⟩ := List.mem_map.1 hr
 refine ⟨by simp, fun q hq => ?_⟩
 obtain ⟨j, hj, rfl⟩ := List.mem_map.1 hq
 exact h i (List.mem_range.1 hi) j (List.mem_range.1 hj)
theorem mG_okq {m : Nat} (hm : m < 4) {g : Nat → Rat} {a : Nat} (ha : a ≤ 170) (hg : ∀ i, i < 3 → Ht a (g i)) : ∀ i, i < 3 → ∀ j, j < 3 → okq (mG m g i j) = true :=
 fun i hi j hj => (mG_ht hm hg hi hj).ok (by omega)
theorem mat_at {m : Nat} (hm : m < 4) {s t : Nat → Rat} (hs : Wh s) (ht : Wh t) {d : Rat} (hd : Ht 10 d) (d0 : 0 ≤ d) (d1 : d ≤ 1) :
  matE ((m : Int) + 1) (tri3 s) (tri3 t) (Fr.of d) = (if zero3 (resp m s) then 7 else 0) ∧ matR ((m : Int) + 1) (tri3 s) (tri3 t) (Fr.of d) = mk3 (mG m (gn m d s t)) := by
 have hg : ∀ i, i < 3 → gainsQ ((m : Int) + 1) (tri3 s) (tri3 t) (Fr.of d) i = gn m d s t i := fun i hi => by
  unfold gainsQ gn
  rw [qF_fr (hd.ok (by omega)), respQ_eq hs i hi, respQ_eq ht i hi]
 have h1 : scaledQ ((m : Int) + 1) (tri3 s) (tri3 t) (Fr.of d) = mk3 (mul3 (ciQ m) (dg (gainsQ ((m : Int) + 1) (tri3 s) (tri3 t) (Fr.of d)))) := by
  unfold scaledQ
  rw [show ((m : Int) + 1 - 1).toNat = m by omega]
  exact mk3_mul (ciQ m) (dg (gainsQ ((m : Int) + 1) (tri3 s) (tri3 t) (Fr.of d)))
 have h2 : matR ((m : Int) + 1) (tri3 s) (tri3 t) (Fr.of d) = mk3 (mG m (gn m d s t)) := by
  unfold matR
  rw [h1, show ((m : Int) + 1 - 1).toNat = m by omega]
  refine (mk3_mul (mul3 (ciQ m) (dg (gainsQ ((m : Int) + 1) (tri3 s) (tri3 t) (Fr.of d)))) (coneQ m)).trans (mk3_congr fun i hi j hj => ?_)
  exact mG_congr hg i j
 refine ⟨?_, h2⟩
 unfold matE
 rw [gainsE_at hm hs ht hd d0 d1, h2, h1, allQ_mk (mG_okq hm (a := 86) (by omega) fun i hi => gn_ht hm hs ht hd hi), allQ_mk fun i hi j hj => by
  rw [mul_dg _ _ _ _ hj, hg j hj]
  exact ((ci_ht hm hi hj).mul (gn_ht hm hs ht hd hj)).ok (by omega)]
 by_cases hz : zero3 (resp m s) = true
 ·rw [if_pos hz]; rfl
 ·rw [if_neg hz]; rfl
theorem fr_q {f : Nat → Nat → Rat} (h : (mk3 f).ok 3) : mQ (mk3 f).fr = mk3 f := by
 unfold mQ RM.fr
 rw [List.map_map]
 conv => rhs; rw [← List.map_id (mk3 f)]
 refine List.map_congr_left fun r hr => ?_
 show (r.map Fr.of).map qF = r
 rw [List.map_map]
 conv => rhs; rw [← List.map_id r]
 exact List.map_congr_left fun q hq => qF_fr ((h.2.2.2.2 r hr).2 q hq)
theorem tri3_congr {f g : Nat → Rat} (h : ∀ i, i < 3 → f i = g i) : tri3 f = tri3 g := by
 unfold tri3
 rw [h 0 (by omega), h 1 (by omega), h 2 (by omega)]
theorem adapt_at {f : Nat → Nat → Rat} {s t : Nat → Rat} (hf : (mk3 f).ok 3) (hs : Wh s) (h : ∀ i, i < 3 → app3 f s i = t i) (ht : ∀ i, i < 3 → okq (t i) = true) :
  adaptE (mk3 f).fr (tri3 s) = 0 ∧ adaptT (mk3 f).fr (tri3 s) = tri3 t := by
 have e : ∀ i, i < 3 → seenQ (mQ (mk3 f).fr) (qT (tri3 s)) i = t i := fun i hi => by
  rw [fr_q hf, seen_mk _ _ _ hi, ← h i hi]
  exact app3_congr (fun _ _ => rfl) fun j hj => hs.q j hj
 refine ⟨?_, ?_⟩
 ·unfold adaptE
  rw [hf.chk, hs.chkT, all3_of (f := seenQ (mQ (mk3 f).fr) (qT (tri3 s))) fun i hi => by rw [e i hi]; exact ht i hi]
  rfl
 ·exact tri3_congr e
theorem zero3_no {f : Nat → Rat} (h : zero3 f = false) : ∀ i, i < 3 → f i ≠ 0 := fun i hi => by
 unfold zero3 at h
 simp only [Bool.or_eq_false_iff, decide_eq_false_iff_not] at h
 have : i = 0 ∨ i = 1 ∨ i = 2 := by omega
 rcases this with rfl | rfl | rfl
 ·exact h.1.1
 ·exact h.1.2
 ·exact h.2
theorem zero3_yes {f : Nat → Rat} (h : zero3 f = true) : ∃ i, i < 3 ∧ f i = 0 := by
 unfold zero3 at h
 simp only [Bool.or_eq_true, decide_eq_true_eq] at h
 rcases h with (h | h) | h
 ·exact ⟨0, by omega, h⟩
 ·exact ⟨1, by omega, h⟩
 ·exact ⟨2, by omega, h⟩
theorem gn_one {m : Nat} {s t : Nat → Rat} (i : Nat) : gn m 1 s t i = resp m t i / resp m s i := by
 unfold gn gainQ
 grind
/-- The whole adaptation brings one white to the other. -/
theorem app_gn {m : Nat} (hm : m < 4) {s t : Nat → Rat} (h : zero3 (resp m s) = false) (i : Nat) (hi : i < 3) : app3 (mG m (gn m 1 s t)) s i = t i := by
 have h0 := zero3_no h
 have e1 : ∀ x, x < 3 → app3 (dg (gn m 1 s t)) (app3 (coneQ m) s) x = app3 (coneQ m) t x := fun x hx => by
  rw [app_dg _ _ _ hx, gn_one]
  have := h0 x hx
  unfold resp at this ⊢
  grind
 unfold mG
 rw [app3_mul, app3_mul, app3_congr (f := ciQ m) (g := ciQ m) (t := app3 (coneQ m) t) (fun _ _ => rfl) e1, ← app3_mul,
  app3_congr (g := one3) (t := t) (cone_left m hm i hi) (fun _ _ => rfl), app3_one _ _ hi]
theorem inv_at {m : Nat} (hm : m < 4) {s t : Nat → Rat} (hs : Wh s) (ht : Wh t) (h : zero3 (resp m s) = false) :
  invE (mk3 (mG m (gn m 1 s t))) = (if zero3 (resp m t) then 7 else 0) ∧ (zero3 (resp m t) = false → invM (mk3 (mG m (gn m 1 s t))) = mk3 (mG m (gn m 1 t s))) := by
 have h0 := zero3_no h
 cases hz : zero3 (resp m t) with
 | true =>
  refine ⟨?_, fun h => by cases h⟩
  obtain ⟨i, hi, e⟩ := zero3_yes hz
  unfold invE
  rw [if_pos (mG_sing hm _ ⟨i, hi, by rw [gn_one, e, Rat.div_def, Rat.zero_mul]⟩), if_pos rfl]
 | false =>
  have h1 := zero3_no hz
  obtain ⟨k1, k2⟩ := mG_inv hm (gn m 1 s t) (gn m 1 t s) fun i hi => by
   rw [gn_one, gn_one]
   have := h0 i hi
   have := h1 i hi
   grind
  refine ⟨?_, fun _ => k2⟩
  unfold invE
  rw [if_neg k1, k2, allQ_mk (mG_okq hm (a := 86) (by omega) fun i hi => gn_ht hm ht hs (Ht.one.mono (by omega)) hi)]
  rfl
end Go.Proofs.adapt
