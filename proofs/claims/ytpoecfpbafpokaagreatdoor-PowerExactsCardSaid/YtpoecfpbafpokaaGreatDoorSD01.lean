/- Lemmas for the proof. No condition. -/
import Derived.Test.YtpoecfpbafpokaaGreatDoorSB01
import Derived.Test.YtpoecfpbafpokaaGreatDoorSB02
import Derived.Test.YtpoecfpbafpokaaGreatDoorSB03
import Derived.Test.YtpoecfpbafpokaaGreatDoorSB05
import Derived.Test.YtpoecfpbafpokaaGreatDoorSB07
import Derived.Test.YtpoecfpbafpokaaGreatDoorSB08
import Derived.Test.YtpoecfpbafpokaaGreatDoorSB09
import Derived.Test.YtpoecfpbafpokaaGreatDoorSB10
import Derived.Laws.StructEq
import Derived.ChangeSame
import Derived.ChangeVars
import Derived.ChangeArms
import Derived.ChangeMaps5
import Derived.Carry
set_option linter.unusedVariables false
set_option linter.unusedSimpArgs false
set_option maxRecDepth 100000
set_option maxHeartbeats 16000000
namespace Go.Num
theorem fl_top {a k n : Nat} (h : sz 10000 a ≤ n * k) : a < (0 + 10000 ^ n) ^ k := by
  have h1 : val 10000 (digs 10000 a) < 10000 ^ (digs 10000 a).length := val_lt zo (dig_digs zo a)
  rw [val_digs zo] at h1
  rw [Nat.zero_add, ← Nat.pow_mul]
  exact Nat.lt_of_lt_of_le h1 (Nat.pow_le_pow_right zo h)
theorem fl_len (s : Nat) {k : Nat} (hk : 0 < k) : s ≤ (s + k - 1) / k * k := by
  have h1 := Nat.div_add_mod (s + k - 1) k
  have h2 := Nat.mod_lt (s + k - 1) hk
  rw [Nat.mul_comm] at h1
  generalize (s + k - 1) / k * k = x at *
  omega
theorem fl_set {p : List Nat} {j d : Nat} (hj : j < p.length) (h0 : p.getD j 0 = 0) : val 10000 (p.set j d) = val 10000 p + d * 10000 ^ j := by
  have := val_set 10000 p j d hj
  rw [h0, Nat.mul_zero, Nat.add_zero, Nat.mul_comm (10000 ^ j)] at this
  exact this
structure FlS (a k i : Nat) (p : List Nat) : Prop where
  dig : Dig 10000 p
  low : ∀ t, t < i → p.getD t 0 = 0
  le : val 10000 p ^ k ≤ a
  lt : a < (val 10000 p + 10000 ^ i) ^ k
structure FlD (a k j : Nat) (p : List Nat) (lo hi : Nat) : Prop where
  le : (val 10000 p + lo * 10000 ^ j) ^ k ≤ a
  lt : a < (val 10000 p + hi * 10000 ^ j) ^ k
theorem FlS.start {a k n : Nat} (hk : 0 < k) (h : sz 10000 a ≤ n * k) : FlS a k n (List.replicate n 0) where
  dig := fun x hx => by rw [List.eq_of_mem_replicate hx]; omega
  low := fun t _ => by simp [List.getD, List.getElem?_replicate]; split <;> rfl
  le := by rw [val_zeros, Nat.zero_pow hk]; omega
  lt := by rw [val_zeros]; exact fl_top h
theorem FlS.enter {a k j : Nat} {p : List Nat} (h : FlS a k (j + 1) p) : FlD a k j p 0 10000 where
  le := by simpa using h.le
  lt := by
    have := h.lt
    rwa [Nat.pow_succ, Nat.mul_comm] at this
theorem FlS.leave {a k j lo : Nat} {p : List Nat} (h : FlS a k (j + 1) p) (hj : j < p.length) (hlo : lo < 10000) (hd : FlD a k j p lo (lo + 1)) : FlS a k j (p.set j lo) where
  dig := h.dig.set _ hlo
  low := fun t ht => by rw [lset_ne zo]; exact h.low t zo
  le := by rw [fl_set hj (h.low j zo)]; exact hd.le
  lt := by
    rw [fl_set hj (h.low j zo)]
    have := hd.lt
    rwa [Nat.add_mul, Nat.one_mul, ← Nat.add_assoc] at this
theorem FlS.done {a k : Nat} {p : List Nat} (hk : 0 < k) (h : FlS a k 0 p) : val 10000 p = iroot k a :=
  (iroot_eq hk h.le (by simpa using h.lt)).symm
theorem FlS.sz {a k i : Nat} {p : List Nat} (h : FlS a k i p) (hk : 0 < k) : val 10000 p ≤ iroot k a := le_iroot hk h.le
end Go.Num
namespace Go.Proofs.verdigrisref01
open Go Go.RowKit Go.SW Go.Num Go.Mem Go.Proofs
theorem make_run (n : Nat) (hn : n ≤ 1000000) : ∀ W : World, (Instr.makeSlice 93 (.int .i64 (n : Int)) (.int .i64 (n : Int))).run Tryz.prog W = .ok (.slice (some ⟨W.heap.size, 0, none⟩) n n) (W.alloc (.cells (ints (List.replicate n 0)).toArray 3)) := fun W => by
  obtain ⟨i0, hi, hz0, hz1, hz2⟩ := info_parts infoI
  have := run_makeSlice (P := Tryz.prog) W 93 3 i0 (.int .i64 0) Tryz.underlying93 hi hz0 .i64 .i64 (n : Int) (n : Int) zo (Int.le_refl _) (by rw [hz1]; simp; omega) (by rw [hz2]; omega) zo
  rw [hz1] at this
  have e : madeCells (Value.int .i64 0).cells n = (ints (List.replicate n 0)).toArray := by
    rw [← made_ints]
    rfl
  simpa [e] using this
theorem lset_self {l : List Nat} {j : Nat} (h : j < l.length) : l.set j (l.getD j 0) = l := by
  refine List.ext_getElem (by rw [List.length_set]) fun i h1 h2 => ?_
  rw [List.getElem_set]
  split
  · rename_i e
    subst e
    simp [h]
  · rfl
theorem oper_append_run {P : Program} {o : Oper} {a : Act} {w w' : World} {J : Act → World → Prop} {Q : Exit → Act → World → Prop} (s x : Operand) (t : TypeId)
    (ho : o.op = .call { callee := .builtin .append, args := #[s, x], argTypes := #[t, t] }) {vs vx v : Value} (hs : a.eval s = vs) (hx : a.eval x = vx)
    (hr : ∀ ty, (Builtin.append_ #[t, t] ty #[vs, vx]).run P w = .ok v w') (h : J (a.put o.dst v) w') : o.wp P a w J Q := by
  unfold Oper.wp execOp
  simp only [ho, resolve, invoke, builtin, Sem.run_bind, Sem.run_pure, Result.andThen_ok, List.map_toArray, List.map_cons, List.map_nil, hs, hx, hr]
  exact h
theorem Floor_ok (x : Value) (a k : Nat) (w : World) (hx : Pl w x (a : Int)) (hk : 0 < k) (k12 : k ≤ 12) (hs : sz 10000 a ≤ 100000) :
    Calls Tryz.prog 111 #[x, .int .i64 k] w (PlPost w (iroot k a : Nat)) := by
  obtain ⟨bA, pA, lA, cA, rfl⟩ := hx.agg
  have NX := zh hx
  have hl : lA = sz 10000 a := by
    obtain ⟨p, c, e, -⟩ := (hx.nm.1).read
    simp only [Value.slice.injEq, Int.natAbs_natCast] at e
    exact e.2.1
  obtain ⟨n, En⟩ : ∃ n, (lA + k - 1) / k = n := ⟨_, rfl⟩
  have HN := zh En
  have hn0 : n ≤ lA + k - 1 := by rw [← En]; exact Nat.div_le_self _ _
  have hq : Int.tdiv ((lA : Int) + (k : Int) - 1) (k : Int) = (n : Int) := by
    rw [← En, show (lA : Int) + (k : Int) - 1 = ((lA + k - 1 : Nat) : Int) by omega, Int.ofNat_tdiv]
  have HL := zh hl
  have HS := zh hs
  have hlA : lA ≤ 100000 := by omega
  have hk0 : ((k : Int) == 0) = false := by simp; omega
  have hk1 : (k : Int) ≠ 0 := by omega
  have hn : n ≤ 100011 := by omega
  have HM := zh (make_run n zo)
  have hm := HM.out
  clear hx hs hl En
  go_enter Tryz.func111, Tryz.ntmps111
  go_wp2_with fail
  obtain ⟨wx, EW, hz, X2, X4, XO⟩ := al3 w #[.bool bA, .slice pA lA cA] 95 #[.bool false, .slice none 0 0] 95 (ints (List.replicate n 0)).toArray 3
  rw [EW]
  clear EW hm HM hq
  have HB := zh hz
  clear hz
  have HF := zh (FlS.start (a := a) (k := k) (n := n) hk (by rw [← HL.out, ← HN.out]; exact fl_len lA hk))
  go_loopw [7, 8, 9] (fun iv _ _ wr => ∃ (i : Nat) (p : List Nat) (z : Int), i ≤ n ∧ iv = .int .i64 z ∧ Hid (z = (i : Int) - 1) ∧ Hid (p.length = n) ∧ Hid (FlS a k i p) ∧ Hid (Box wr (w.heap.size + 1 + 1) (ints p).toArray 3) ∧ Hid (Box wr w.heap.size #[.bool bA, .slice pA lA cA] 95) ∧ Hid (Box wr (w.heap.size + 1) #[.bool false, .slice none 0 0] 95) ∧ Hid (Below w.heap.size w wr)) (fun iv _ _ _ => (intOf iv + 1).toNat)
  case atStart => exact ⟨n, _, _, Nat.le_refl _, rfl, zh rfl, zh (List.length_replicate), HF, XO, X2, X4, HB⟩
  case round =>
    clear XO X2 X4 HB HF
    obtain ⟨i, p, z, hi, rfl, HZ, HP, HF, XO, X2, X4, HB⟩ := hrel
    cases i with
    | zero =>
      obtain rfl : z = -1 := by have := HZ.out; omega
      have hg : Gs wr (.slice (some ⟨w.heap.size + 1 + 1, 0, none⟩) n n) p := Gs.of_box (post := []) (by rw [List.append_nil]; exact XO.out) HP.out (Nat.le_refl _) zo
      have HMD := zh (made_ok false _ p wr hg HF.out.dig)
      have hv : sgd (val 10000 p) false = (iroot k a : Nat) := by rw [HF.out.done hk]; rfl
      rw [hv] at HMD
      clear hg hv
      go_wp2_with fail
      refine HMD.out.mono ?_
      rintro e w2 ⟨v2, rfl, hb2, hv2⟩
      obtain ⟨b2, p2, l2, c2, rfl⟩ := hv2.agg
      have HV := zh hv2
      replace X4 := X4.bl hb2
      replace HB := zh (Bt HB.out hb2)
      clear hb2 hv2 HMD
      obtain ⟨c4, l4, f4⟩ := X4.clf
      go_wp2_with fail
      have hx4 := X4.out
      have hB := HB.out
      refine ret_c rfl rfl boxA Tryz.underlying95 rfl zk ?_
      exact ⟨_, rfl, belA, HV.out.set2 hx4 zd _ _ _ _⟩
    | succ j =>
      obtain rfl : z = (j : Int) := by have := HZ.out; omega
      have hjn : j < p.length := by have := HP.out; omega
      have HJ := zh hjn
      have hjn2 : (j : Int) < (n : Int) := by omega
      go_wp2_with fail
      go_loopw [8, 9] (fun lv hv wq => ∃ (lo hi x : Nat), lv = .int .i64 (lo : Int) ∧ hv = .int .i64 (hi : Int) ∧ Hid (lo < hi) ∧ Hid (hi ≤ 10000) ∧ Hid (x < 10000) ∧ Hid (FlD a k j p lo hi) ∧ Hid (Box wq (w.heap.size + 1 + 1) (ints (p.set j x)).toArray 3) ∧ Hid (Box wq w.heap.size #[.bool bA, .slice pA lA cA] 95) ∧ Hid (Box wq (w.heap.size + 1) #[.bool false, .slice none 0 0] 95) ∧ Hid (Below w.heap.size w wq)) (fun lv hv _ => (intOf hv - intOf lv).toNat)
      case atStart =>
        refine ⟨0, 10000, p.getD j 0, rfl, rfl, zh zo, zh (Nat.le_refl _), zh (by rw [HF.out.low j zo]; omega), zh HF.out.enter, ?_, X2, X4, HB⟩
        rw [lset_self hjn]
        exact XO
      case round =>
        clear XO X2 X4 HB
        obtain ⟨lo, hi', x, rfl, rfl, HLO, HHI, HX, HD, XO, X2, X4, HB⟩ := hrel
        have k1 := HLO.out
        have k2 := HHI.out
        have cj : wr.cell? ⟨w.heap.size + 1 + 1, j, none⟩ = some (.int .i64 (x : Int)) := by
          rw [XO.out.cell, List.getElem?_toArray, ints_get (by rw [List.length_set]; exact HJ.out)]
          simp [HJ.out]
        have fj : wr.frozen? ⟨w.heap.size + 1 + 1, j, none⟩ = false := XO.out.free j
        have lO := XO.out.lt
        by_cases hgt : 1 < hi' - lo
        · have hg1 : (1 : Int) < (hi' : Int) - (lo : Int) := by omega
          obtain ⟨m, hm⟩ : ∃ m, (lo + hi') / 2 = m := ⟨_, rfl⟩
          have hm2 : ((lo : Int) + (hi' : Int)) / 2 = (m : Int) := by omega
          have hm3 : Int.tdiv ((lo : Int) + (hi' : Int)) 2 = (m : Int) := by rw [← hm2, Int.tdiv_eq_ediv_of_nonneg zo]
          go_wp2_with fail
          obtain ⟨ws, ES⟩ : ∃ y, wr.setCell ⟨w.heap.size + 1 + 1, j, none⟩ (.int .i64 (m : Int)) = y := ⟨_, rfl⟩
          have hxo : Box ws (w.heap.size + 1 + 1) (ints (p.set j m)).toArray 3 := by
            rw [← ES]
            have := XO.out.set j (.int .i64 (m : Int))
            rwa [List.setIfInBounds_toArray, ints_set, List.set_set] at this
          have hx2 : Box ws w.heap.size #[.bool bA, .slice pA lA cA] 95 := by rw [← ES]; exact X2.out.setOther _ (by simp; omega)
          have hx4 : Box ws (w.heap.size + 1) #[.bool false, .slice none 0 0] 95 := by rw [← ES]; exact X4.out.setOther _ zi
          have hbs : Below w.heap.size w ws := by rw [← ES]; exact HB.out.setCell (by simp; omega) _
          rw [ES]
          replace XO := zh hxo
          replace X2 := zh hx2
          replace X4 := zh hx4
          replace HB := zh hbs
          clear ES hxo hx2 hx4 hbs cj fj lO
          obtain ⟨c2, l2⟩ := X2.cl
          have HM : Hid (lo < m ∧ m < hi' ∧ m < 10000) := zh zo
          refine wp_region_walk [(.pure, 1), (.pure, 4), (.read, 6), (.ext, 0), (.ext, 2), (.ext, 3), (.ext, 5), (.ext, 7), (.pure, 8)] zk zk zR zP ?_
          refine Wk.out ?_
          repeat (first | (apply wk_skip; (rfl); (rfl); (rfl); (intro J hJ; go_simp; (with_reducible refine hJ _ ?_); clear hJ J)) | (apply wk_len; (rfl); (rfl); (rfl); (rfl); (exact zk); (intro J hJ; go_simp; (with_reducible refine hJ _ ?_); clear hJ J)) | (apply wk_pure; (rfl); (rfl); (intro J hJ; go_simp; (with_reducible refine hJ _ ?_); clear hJ J)) | (apply wk_load; (rfl); (rfl); (rfl); (rfl); (intro J hJ; go_simp; (with_reducible refine hJ _ ?_); clear hJ J; try go_simp)))
          refine wk_ext rfl rfl (fun w1 hb1 J hJ => ?_)
          go_simp
          have hx0 : Below ws.heap.size ws w1 := belA
          have HX0 : Hid (Box (w1.alloc (.cells #[] 3)) w1.heap.size (ints []).toArray 3) := zh (Box.new _ _ _)
          obtain ⟨w1a, E1⟩ : ∃ y, w1.alloc (.cells #[] 3) = y := ⟨_, rfl⟩
          obtain ⟨g1, Eg⟩ : ∃ y, w1.heap.size = y := ⟨_, rfl⟩
          have hy1 : Below w1.heap.size w1 w1a := by rw [← E1]; exact belA
          rw [E1, Eg] at HX0 ⊢
          refine hJ _ _ hy1 ?_
          have hz1 := Bt hx0 hy1
          clear hJ J E1 Eg hb1 hx0 hy1
          repeat (first | (apply wk_skip; (rfl); (rfl); (rfl); (intro J hJ; go_simp; (with_reducible refine hJ _ ?_); clear hJ J)) | (apply wk_len; (rfl); (rfl); (rfl); (rfl); (exact zk); (intro J hJ; go_simp; (with_reducible refine hJ _ ?_); clear hJ J)) | (apply wk_pure; (rfl); (rfl); (intro J hJ; go_simp; (with_reducible refine hJ _ ?_); clear hJ J)) | (apply wk_load; (rfl); (rfl); (rfl); (rfl); (intro J hJ; go_simp; (with_reducible refine hJ _ ?_); clear hJ J; try go_simp)))
          refine wk_ext rfl rfl (fun w2 hb2 J hJ => ?_)
          have hz2 := Bt hz1 hb2
          have hgs : Gs w2 (.slice (some ⟨w.heap.size + 1 + 1, 0, none⟩) n n) (p.set j m) := Gs.of_box (post := []) (by rw [List.append_nil]; exact XO.out.later hz2) (by rw [List.length_set]; exact HP.out) (Nat.le_refl _) zo
          obtain ⟨v3, w3, hap, hg3, hb3, b3, o3, n3, c3, rfl, -⟩ := append_src w2 g1 [] (p.set j m) _ (HX0.out.later hb2) hgs (by rw [List.length_set, HP.out, List.length_nil]; omega)
          rw [List.nil_append] at hg3
          refine oper_append_run _ _ _ rfl rfl rfl hap ?_
          go_simp
          refine hJ _ _ hb3 ?_
          have hz3 := Bt hz2 hb3
          clear hJ J hap hgs hz2 hb2 HX0
          have HG := zh hg3
          clear hg3
          repeat (first | (apply wk_skip; (rfl); (rfl); (rfl); (intro J hJ; go_simp; (with_reducible refine hJ _ ?_); clear hJ J)) | (apply wk_len; (rfl); (rfl); (rfl); (rfl); (exact zk); (intro J hJ; go_simp; (with_reducible refine hJ _ ?_); clear hJ J)) | (apply wk_pure; (rfl); (rfl); (intro J hJ; go_simp; (with_reducible refine hJ _ ?_); clear hJ J)) | (apply wk_load; (rfl); (rfl); (rfl); (rfl); (intro J hJ; go_simp; (with_reducible refine hJ _ ?_); clear hJ J; try go_simp)))
          refine wk_ext rfl rfl (fun w4 hb4 J hJ => ?_)
          have hz4 := Bt hz3 hb4
          go_simp
          refine (made_ok false _ (p.set j m) w4 (HG.out.later hb4) (HF.out.dig.set _ HM.out.2.2)).mono ?_
          rintro e w5 ⟨v5, rfl, hb5, hv5⟩
          obtain ⟨b5, p5, l5, c5, rfl⟩ := hv5.agg
          refine hJ _ _ hb5 ?_
          have hz5 := Bt hz4 hb5
          obtain ⟨V, EV⟩ : ∃ y, val 10000 (p.set j m) = y := ⟨_, rfl⟩
          have hsg : sgd (val 10000 (p.set j m)) false = (V : Int) := by rw [EV]; rfl
          rw [hsg] at hv5
          have HV := zh hv5
          have HE := zh EV
          clear hJ J hv5 hz3 hz4 hb4 hb5 HG hsg EV hb3 hz1
          have hVn : V < 10000 ^ n := by
            rw [← HE.out, ← HP.out]
            have := val_lt (B := 10000) zo (HF.out.dig.set j HM.out.2.2)
            rwa [List.length_set] at this
          have hVs : sz 10000 V ≤ 100011 := Nat.le_trans (sz_le_of_lt zo n V hVn) hn
          have HVS := zh hVs
          clear hVn hVs
          repeat (first | (apply wk_skip; (rfl); (rfl); (rfl); (intro J hJ; go_simp; (with_reducible refine hJ _ ?_); clear hJ J)) | (apply wk_len; (rfl); (rfl); (rfl); (rfl); (exact zk); (intro J hJ; go_simp; (with_reducible refine hJ _ ?_); clear hJ J)) | (apply wk_pure; (rfl); (rfl); (intro J hJ; go_simp; (with_reducible refine hJ _ ?_); clear hJ J)) | (apply wk_load; (rfl); (rfl); (rfl); (rfl); (intro J hJ; go_simp; (with_reducible refine hJ _ ?_); clear hJ J; try go_simp)))
          refine wk_ext rfl rfl (fun w6 hb6 J hJ => ?_)
          have hz6 := Bt hz5 hb6
          go_simp
          refine (Raised_ok _ (V : Int) k w6 (HV.out.later hb6) (by rw [Int.natAbs_natCast]; have := HVS.out; exact Nat.le_trans (Nat.mul_le_mul this k12) zo) (by rw [Int.natAbs_natCast]; have := HVS.out; omega) zo).mono ?_
          rintro e w7 ⟨v7, rfl, hb7, hv7⟩
          obtain ⟨b7, p7, l7, c7, rfl⟩ := hv7.agg
          refine hJ _ _ hb7 ?_
          have hz7 := Bt hz6 hb7
          have HV7 := zh hv7
          clear hJ J hv7 hz5 hz6 hb6 hb7 HV
          repeat (first | (apply wk_skip; (rfl); (rfl); (rfl); (intro J hJ; go_simp; (with_reducible refine hJ _ ?_); clear hJ J)) | (apply wk_len; (rfl); (rfl); (rfl); (rfl); (exact zk); (intro J hJ; go_simp; (with_reducible refine hJ _ ?_); clear hJ J)) | (apply wk_pure; (rfl); (rfl); (intro J hJ; go_simp; (with_reducible refine hJ _ ?_); clear hJ J)) | (apply wk_load; (rfl); (rfl); (rfl); (rfl); (intro J hJ; go_simp; (with_reducible refine hJ _ ?_); clear hJ J; try go_simp)))
          refine wk_ext rfl rfl (fun w8 hb8 J hJ => ?_)
          have hz8 := Bt hz7 hb8
          go_simp
          refine (Order_ok _ _ ((V : Int) ^ k) (a : Int) w8 (HV7.out.later hb8) (NX.out.later (Bt HB.out hz8)) ?_ (by rw [Int.natAbs_natCast]; have := HS.out; omega)).mono ?_
          · have := sz_powi (a := (V : Int)) (i := k) (Nat.le_refl _) (by rw [Int.natAbs_natCast]; have := HVS.out; exact Nat.le_trans (Nat.mul_le_mul this k12) zo)
            omega
          rintro e w9 ⟨rfl, hb9⟩
          refine hJ _ _ hb9 ?_
          have hz9 := Bt hz8 hb9
          clear hJ J hz7 hz8 hb8 hb9 HV7
          replace XO := XO.bl hz9
          replace X2 := X2.bl hz9
          replace X4 := X4.bl hz9
          replace HB := zh (Bt HB.out hz9)
          clear hz9 c2 l2
          have hVe : V = val 10000 p + m * 10000 ^ j := by rw [← HE.out, fl_set HJ.out (HF.out.low j zo)]
          have HVe := zh hVe
          have hcc : ((V : Int) ^ k ≤ (a : Int)) ↔ V ^ k ≤ a := by rw [← Int.natCast_pow]; omega
          have HCC := zh hcc
          clear hVe hcc HVS HE
          obtain ⟨cv, ECv⟩ : ∃ y, cmpz ((V : Int) ^ k) (a : Int) = y := ⟨_, rfl⟩
          have HCV := zh ECv
          rw [ECv]
          clear ECv
          by_cases hle : V ^ k ≤ a
          · have hcv : decide (cv ≤ 0) = true := by
              rw [← HCV.out]
              unfold cmpz
              have h1 := HCC.out.2 hle
              rw [if_neg (c := (a : Int) < (V : Int) ^ k) zo]
              split <;> simp
            have hcv2 : cv ≤ 0 := of_decide_eq_true hcv
            have HLE := zh hle
            clear hle
            repeat (first | (apply wk_skip; (rfl); (rfl); (rfl); (intro J hJ; go_simp; (with_reducible refine hJ _ ?_); clear hJ J)) | (apply wk_len; (rfl); (rfl); (rfl); (rfl); (exact zk); (intro J hJ; go_simp; (with_reducible refine hJ _ ?_); clear hJ J)) | (apply wk_pure; (rfl); (rfl); (intro J hJ; go_simp; (with_reducible refine hJ _ ?_); clear hJ J)) | (apply wk_load; (rfl); (rfl); (rfl); (rfl); (intro J hJ; go_simp; (with_reducible refine hJ _ ?_); clear hJ J; try go_simp)))
            refine wk_nil fun wf hbf => ?_
            replace XO := XO.bl hbf
            replace X2 := X2.bl hbf
            replace X4 := X4.bl hbf
            replace HB := zh (Bt HB.out hbf)
            clear hbf
            have cj : wf.cell? ⟨w.heap.size + 1 + 1, j, none⟩ = some (.int .i64 (m : Int)) := by
              rw [XO.out.cell, List.getElem?_toArray, ints_get (by rw [List.length_set]; exact HJ.out)]
              simp [HJ.out]
            go_wp2_with fail
            go_roundw
            case rel => exact ⟨m, hi', m, rfl, rfl, zh HM.out.2.1, HHI, zh HM.out.2.2, zh ⟨by rw [← HVe.out]; exact HLE.out, HD.out.lt⟩, XO, X2, X4, HB⟩
            case measure => have := HM.out; simp [intOf]; omega
          · have hcv : decide (cv ≤ 0) = false := by
              rw [← HCV.out]
              unfold cmpz
              have h1 : ¬ (V : Int) ^ k ≤ (a : Int) := fun h => hle (HCC.out.1 h)
              rw [if_neg (c := (V : Int) ^ k < (a : Int)) zo, if_pos zo]
              rfl
            have hcv2 : ¬ cv ≤ 0 := of_decide_eq_false hcv
            have HLE := zh (Nat.lt_of_not_le hle)
            clear hle
            repeat (first | (apply wk_skip; (rfl); (rfl); (rfl); (intro J hJ; go_simp; (with_reducible refine hJ _ ?_); clear hJ J)) | (apply wk_len; (rfl); (rfl); (rfl); (rfl); (exact zk); (intro J hJ; go_simp; (with_reducible refine hJ _ ?_); clear hJ J)) | (apply wk_pure; (rfl); (rfl); (intro J hJ; go_simp; (with_reducible refine hJ _ ?_); clear hJ J)) | (apply wk_load; (rfl); (rfl); (rfl); (rfl); (intro J hJ; go_simp; (with_reducible refine hJ _ ?_); clear hJ J; try go_simp)))
            refine wk_nil fun wf hbf => ?_
            replace XO := XO.bl hbf
            replace X2 := X2.bl hbf
            replace X4 := X4.bl hbf
            replace HB := zh (Bt HB.out hbf)
            clear hbf
            have cj : wf.cell? ⟨w.heap.size + 1 + 1, j, none⟩ = some (.int .i64 (m : Int)) := by
              rw [XO.out.cell, List.getElem?_toArray, ints_get (by rw [List.length_set]; exact HJ.out)]
              simp [HJ.out]
            go_wp2_with fail
            go_roundw
            case rel => exact ⟨lo, m, m, rfl, rfl, zh HM.out.1, zh (by have := HM.out; omega), zh HM.out.2.2, zh ⟨HD.out.le, by rw [← HVe.out]; exact HLE.out⟩, XO, X2, X4, HB⟩
            case measure => have := HM.out; simp [intOf]; omega
        · have hg1 : ¬ (1 : Int) < (hi' : Int) - (lo : Int) := by omega
          obtain rfl : hi' = lo + 1 := by omega
          go_wp2_with fail
          have hbo := HB.out
          go_roundw
          case rel =>
            refine ⟨j, p.set j lo, _, by omega, rfl, zh rfl, zh (by rw [List.length_set]; exact HP.out), zh (HF.out.leave HJ.out (by have := HHI.out; omega) HD.out), ?_, zh (X2.out.setOther _ (by simp; omega)), zh (X4.out.setOther _ zi), zh belA⟩
            have := XO.out.set j (.int .i64 (lo : Int))
            rw [List.setIfInBounds_toArray, ints_set, List.set_set] at this
            exact zh this
          case measure => simp [intOf]
end Go.Proofs.verdigrisref01
namespace Go.Proofs.verdigrisref02
open Go Go.RowKit Go.SW Go.Num Go.Mem Go.Proofs Go.Dec Go.Proofs.verdigrisref01 Go.Fra
theorem Right_of {s : ByteArray} {b : Bool} (h : (whole s.data.toList).isSome = b) (hs : s.size ≤ 4611686018427387904) (W : World) :
    Calls Tryz.prog 102 #[.string s] W (fun e w' => e = .returned (.bool b) ∧ Below W.heap.size W w') :=
  (verdigrisref01.Right_ok s W hs).mono fun _ _ h' => ⟨h ▸ h'.1, h'.2 ▸ Below.refl _ _⟩
def Fits (a : Fr) : Prop := a.n.size ≤ 4611686018427387904 ∧ a.d.size ≤ 4611686018427387904
theorem rd_none_n {s t : ByteArray} (h : whole s.data.toList = none) : rd ⟨s, t⟩ = none := by unfold rd; simp only [h]
theorem rd_none_d {s t : ByteArray} (h : whole t.data.toList = none) : rd ⟨s, t⟩ = none := by
  unfold rd
  simp only [h]
  cases whole s.data.toList <;> rfl
theorem rd_two {s t : ByteArray} {n d : Int} (h1 : whole s.data.toList = some n) (h2 : whole t.data.toList = some d) : (rd ⟨s, t⟩).isSome = (decide (0 < d) && (Nat.gcd n.natAbs d.natAbs == 1)) := by
  unfold rd
  simp only [h1, h2]
  by_cases h : 0 < d ∧ n.natAbs.Coprime d.natAbs
  · rw [dif_pos h]
    rw [decide_eq_true h.1, show Nat.gcd n.natAbs d.natAbs = 1 from h.2]
    rfl
  · rw [dif_neg h]
    refine (Bool.eq_false_iff.2 fun e => h ?_).symm
    rw [Bool.and_eq_true, decide_eq_true_iff, beq_iff_eq] at e
    exact e
theorem whole_sz {bs : List UInt8} {z : Int} (h : whole bs = some z) : sz 10000 z.natAbs ≤ 201 := by
  have h1 := okn_sz (okn_len.2 (whole_itoa h).2)
  have := sz4_of h1
  omega
theorem one_text : (Lib.itoa ((1 : Nat) : Int)).toArray = #[49] := by decide +kernel
theorem toList_inj {a b : ByteArray} (h : a.toList = b.toList) : a = b := by
  rw [ByteArray.toList_eq, ByteArray.toList_eq] at h
  exact ba_ext h
theorem not_one {g : Nat} (h : g ≠ 1) : ((⟨(Lib.itoa (g : Int)).toArray⟩ : ByteArray) == ⟨#[49]⟩) = false := by
  rw [beq_toListBytes, beq_eq_false_iff_ne]
  intro e
  have e := toList_inj e
  simp only [ByteArray.mk.injEq] at e
  rw [← one_text] at e
  have := itoa_inj (List.toArray_inj e)
  omega
theorem is_one : ((⟨(Lib.itoa ((1 : Nat) : Int)).toArray⟩ : ByteArray) == ⟨#[49]⟩) = true := by rw [one_text, beq_toListBytes]; exact beq_self_eq_true _
theorem Right_ok (s t : ByteArray) (w : World) (h1 : s.size ≤ 4611686018427387904) (h2 : t.size ≤ 4611686018427387904) :
    Calls Tryz.prog 56 #[.agg #[.string s, .string t]] w (fun e w' => e = .returned (.bool (rd ⟨s, t⟩).isSome) ∧ Below w.heap.size w w') := by
  cases e1 : whole s.data.toList with
  | none =>
    rw [rd_none_n e1]
    have R1 := zh (fun W => Right_of (b := false) (by rw [e1]; rfl) h1 W)
    clear e1 h1 h2
    go_enter Tryz.func56, Tryz.ntmps56
    go_wp2_with fail
    refine (R1.out _).mono ?_
    rintro e w1 ⟨rfl, hb⟩
    go_wp2_with fail
    go_ret
    exact ⟨rfl, Bt belA hb⟩
  | some n =>
    have R1 := zh (fun W => Right_of (b := true) (by rw [e1]; rfl) h1 W)
    cases e2 : whole t.data.toList with
    | none =>
      rw [rd_none_d e2]
      have R2 := zh (fun W => Right_of (b := false) (by rw [e2]; rfl) h2 W)
      have h0 : Below w.heap.size w (w.alloc (.cells #[.string s, .string t] 40)) := belA
      have hx := Box.new w #[.string s, .string t] 40
      clear e1 h1 h2 e2
      go_enter Tryz.func56, Tryz.ntmps56
      go_wp2_with fail
      refine (R1.out _).mono ?_
      rintro e w1 ⟨rfl, hb⟩
      have cx := (hx.later hb).cell
      have lx := (hx.later hb).lt
      go_wp2_with fail
      refine (R2.out _).mono ?_
      rintro e w2 ⟨rfl, hb2⟩
      go_wp2_with fail
      go_ret
      exact ⟨rfl, Bt (Bt h0 hb) hb2⟩
    | some d =>
      have R2 := zh (fun W => Right_of (b := true) (by rw [e2]; rfl) h2 W)
      rw [rd_two e1 e2]
      have I1 := zh (fun W => verdigrisref01.In_ok s n W e1)
      have I2 := zh (fun W => verdigrisref01.In_ok t d W e2)
      have K1 := zh (Nat.le_trans (whole_sz e1) (show 201 ≤ 274877906944 by omega))
      have K2 := zh (Nat.le_trans (whole_sz e2) (show 201 ≤ 274877906944 by omega))
      have hg : 0 < d → sz 10000 ((Nat.gcd n.natAbs d.natAbs : Nat) : Int).natAbs ≤ 1073741824 := fun h => by
        rw [Int.natAbs_natCast]
        have h3 := sz_mono (B := 10000) zo (Nat.le_of_dvd (by omega : 0 < d.natAbs) (Nat.gcd_dvd_right n.natAbs d.natAbs))
        have h4 := whole_sz e2
        omega
      have DV := zh (fun x y W hx hy => Divisor_ok x y n d W hx hy K1.out K2.out)
      generalize Nat.gcd n.natAbs d.natAbs = g at *
      rcases Int.lt_trichotomy d 0 with hd | hd | hd
      · have HD := zh hd
        rw [decide_eq_false (show ¬ 0 < d by omega), Bool.false_and]
        clear e1 e2 h1 h2 hg hd
        go_enter Tryz.func56, Tryz.ntmps56
        go_wp2_with fail
        obtain ⟨wq1, EW, hz, X1⟩ := al1 w #[.string s, .string t] 40
        rw [EW]
        have hk2 := Bt (Below.refl _ _) hz
        clear EW hz
        refine (R1.out _).mono ?_
        rintro e wc3 ⟨rfl, hb3⟩
        replace X1 := X1.bl hb3
        have hk5 := Bt hk2 hb3
        clear hk2
        clear hb3
        obtain ⟨cX1, lX1, fX1⟩ := X1.clf
        go_wp2_with fail
        clear cX1 lX1 fX1
        refine (R2.out _).mono ?_
        rintro e wc6 ⟨rfl, hb6⟩
        replace X1 := X1.bl hb6
        have hk8 := Bt hk5 hb6
        clear hk5
        clear hb6
        go_wp2_with fail
        obtain ⟨cX1, lX1, fX1⟩ := X1.clf
        refine wp_region_walk [(.pure, 0), (.read, 1), (.pure, 3), (.read, 4), (.ext, 2), (.ext, 5), (.alloc #[.bool false, .slice none 0 0] 95, 6), (.alloc #[.bool false, .slice none 0 0] 95, 7), (.fin, 8), (.fin, 9)] zk zk zR zP ?_
        repeat (first | (refine walk_pure0 rfl rfl fun J h => ?_; go_simp; refine h _ ?_; clear h J) | (refine walk_load rfl rfl rfl rfl fun J h => ?_; go_simp; refine h _ ?_; clear h J; try go_simp))
        refine walk_ext rfl rfl (fun we9 hb9 J hJ => ?_); go_simp
        have hh9 : Below wc6.heap.size wc6 we9 := belA
        clear hb9
        refine (I1.out _).mono ?_
        rintro e wc10 ⟨v, rfl, hb10, hv11⟩
        obtain ⟨bA, paA, lA, caA, rfl⟩ := hv11.agg
        refine hJ _ _ hb10 ?_
        clear hJ J
        have hh10 := Bt hh9 hb10
        clear hh9 hb10 hv11
        repeat (first | (refine walk_pure0 rfl rfl fun J h => ?_; go_simp; refine h _ ?_; clear h J) | (refine walk_load rfl rfl rfl rfl fun J h => ?_; go_simp; refine h _ ?_; clear h J; try go_simp))
        refine walk_ext rfl rfl (fun we12 hb12 J hJ => ?_); go_simp
        have hh12 : Below wc6.heap.size wc6 we12 := Bt hh10 belA
        clear hb12 hh10
        refine (I2.out _).mono ?_
        rintro e wc13 ⟨v, rfl, hb13, hv⟩
        obtain ⟨bB, paB, lB, caB, rfl⟩ := hv.agg
        have hb1 : bB = true := hv.nm.2.trans (decide_eq_true HD.out)
        subst hb1
        refine hJ _ _ hb13 ?_
        clear hJ J
        have hh13 := Bt hh12 hb13
        clear hh12 hb13 hv
        repeat (first | (refine walk_pure0 rfl rfl fun J h => ?_; go_simp; refine h _ ?_; clear h J) | (refine walk_load rfl rfl rfl rfl fun J h => ?_; go_simp; refine h _ ?_; clear h J; try go_simp))
        refine walk_alloc rfl (fun bk15 wa15 hwa15 hNbk15 hltbk15 hAbk15 hxbk15 => ?_); go_simp; replace hxbk15 : Box _ _ _ _ := hxbk15; have hWbk15 : w.heap.size ≤ bk15 := (by first | omega | exact Nat.le_trans (Below.size (B := w.heap.size) belA) hNbk15)
        refine walk_alloc rfl (fun bk16 wa16 hwa16 hNbk16 hltbk16 hAbk16 hxbk16 => ?_); go_simp; replace hxbk16 : Box _ _ _ _ := hxbk16; have hWbk16 : w.heap.size ≤ bk16 := (by first | omega | exact Nat.le_trans (Below.size (B := w.heap.size) belA) hNbk16)
        replace hxbk15 := Box.later hxbk15 hwa16
        have hne : bk15 ≠ bk16 := fun h => hAbk16 (by simp [h])
        have hne2 : bk16 ≠ bk15 := fun h => hne h.symm
        refine walk_fin [_, _] rfl (fun wf17 hf17 => ?_)
        have hh17 : Below wc6.heap.size wc6 wf17 := Bt hh13 belA
        have hq0 := hxbk15.later hf17; have cq0 := hq0.cell; have fq0 := hq0.free
        have hq1 := hxbk16.later hf17; have cq1 := hq1.cell; have fq1 := hq1.free
        clear hxbk15 hxbk16 hf17 hh13
        clear cX1 lX1 fX1
        go_wp2_with fail
        obtain ⟨wq18, EW⟩ : ∃ y, ((((wf17.setCell ⟨bk15, 0, none⟩ (.bool bA)).setCell ⟨bk15, 1, none⟩ (.slice paA lA caA)).setCell ⟨bk16, 0, none⟩ (.bool true)).setCell ⟨bk16, 1, none⟩ (.slice paB lB caB)) = y := ⟨_, rfl⟩
        have hz : Below wc6.heap.size wc6 wq18 := by rw [← EW]; exact ((((hh17.setCell hNbk15 _).setCell hNbk15 _).setCell hNbk16 _).setCell hNbk16 _)
        have X3 : Hid (Box wq18 bk16 #[.bool true, .slice paB lB caB] 95) := zh (by rw [← EW]; exact ((((hq1.setOther _ (by first | exact hne | exact hne2)).setOther _ (by first | exact hne | exact hne2)).set 0 _).set 1 _))
        rw [EW]
        clear EW hq0 cq0 fq0 hq1 cq1 fq1 hh17
        replace X1 := X1.bl hz
        have hk19 := Bt hk8 hz
        clear hk8
        clear hz
        clear hwa15 hAbk15 hAbk16 hWbk15 hWbk16 hwa16
        have hlbk15 := hNbk15; have hlbk16 := hNbk16; clear hNbk15 hNbk16 hltbk15 hltbk16
        go_wp2_with fail
        go_ret
        exact ⟨rfl, hk19⟩
      · have HD := zh hd
        rw [decide_eq_false (show ¬ 0 < d by omega), Bool.false_and]
        clear e1 e2 h1 h2 hg hd
        go_enter Tryz.func56, Tryz.ntmps56
        go_wp2_with fail
        obtain ⟨wq1, EW, hz, X1⟩ := al1 w #[.string s, .string t] 40
        rw [EW]
        have hk2 := Bt (Below.refl _ _) hz
        clear EW hz
        refine (R1.out _).mono ?_
        rintro e wc3 ⟨rfl, hb3⟩
        replace X1 := X1.bl hb3
        have hk5 := Bt hk2 hb3
        clear hk2
        clear hb3
        obtain ⟨cX1, lX1, fX1⟩ := X1.clf
        go_wp2_with fail
        clear cX1 lX1 fX1
        refine (R2.out _).mono ?_
        rintro e wc6 ⟨rfl, hb6⟩
        replace X1 := X1.bl hb6
        have hk8 := Bt hk5 hb6
        clear hk5
        clear hb6
        go_wp2_with fail
        obtain ⟨cX1, lX1, fX1⟩ := X1.clf
        refine wp_region_walk [(.pure, 0), (.read, 1), (.pure, 3), (.read, 4), (.ext, 2), (.ext, 5), (.alloc #[.bool false, .slice none 0 0] 95, 6), (.alloc #[.bool false, .slice none 0 0] 95, 7), (.fin, 8), (.fin, 9)] zk zk zR zP ?_
        repeat (first | (refine walk_pure0 rfl rfl fun J h => ?_; go_simp; refine h _ ?_; clear h J) | (refine walk_load rfl rfl rfl rfl fun J h => ?_; go_simp; refine h _ ?_; clear h J; try go_simp))
        refine walk_ext rfl rfl (fun we9 hb9 J hJ => ?_); go_simp
        have hh9 : Below wc6.heap.size wc6 we9 := belA
        clear hb9
        refine (I1.out _).mono ?_
        rintro e wc10 ⟨v, rfl, hb10, hv11⟩
        obtain ⟨bA, paA, lA, caA, rfl⟩ := hv11.agg
        refine hJ _ _ hb10 ?_
        clear hJ J
        have hh10 := Bt hh9 hb10
        clear hh9 hb10 hv11
        repeat (first | (refine walk_pure0 rfl rfl fun J h => ?_; go_simp; refine h _ ?_; clear h J) | (refine walk_load rfl rfl rfl rfl fun J h => ?_; go_simp; refine h _ ?_; clear h J; try go_simp))
        refine walk_ext rfl rfl (fun we12 hb12 J hJ => ?_); go_simp
        have hh12 : Below wc6.heap.size wc6 we12 := Bt hh10 belA
        clear hb12 hh10
        refine (I2.out _).mono ?_
        rintro e wc13 ⟨v, rfl, hb13, hv⟩
        obtain ⟨bB, paB, lB, caB, rfl⟩ := hv.agg
        have hb1 : bB = false := hv.nm.2.trans (decide_eq_false (by have := HD.out; omega))
        subst hb1
        have hl0 : lB = 0 := hv.nm.1.len0 (by have := HD.out; omega)
        subst hl0
        refine hJ _ _ hb13 ?_
        clear hJ J
        have hh13 := Bt hh12 hb13
        clear hh12 hb13 hv
        repeat (first | (refine walk_pure0 rfl rfl fun J h => ?_; go_simp; refine h _ ?_; clear h J) | (refine walk_load rfl rfl rfl rfl fun J h => ?_; go_simp; refine h _ ?_; clear h J; try go_simp))
        refine walk_alloc rfl (fun bk15 wa15 hwa15 hNbk15 hltbk15 hAbk15 hxbk15 => ?_); go_simp; replace hxbk15 : Box _ _ _ _ := hxbk15; have hWbk15 : w.heap.size ≤ bk15 := (by first | omega | exact Nat.le_trans (Below.size (B := w.heap.size) belA) hNbk15)
        refine walk_alloc rfl (fun bk16 wa16 hwa16 hNbk16 hltbk16 hAbk16 hxbk16 => ?_); go_simp; replace hxbk16 : Box _ _ _ _ := hxbk16; have hWbk16 : w.heap.size ≤ bk16 := (by first | omega | exact Nat.le_trans (Below.size (B := w.heap.size) belA) hNbk16)
        replace hxbk15 := Box.later hxbk15 hwa16
        have hne : bk15 ≠ bk16 := fun h => hAbk16 (by simp [h])
        have hne2 : bk16 ≠ bk15 := fun h => hne h.symm
        refine walk_fin [_, _] rfl (fun wf17 hf17 => ?_)
        have hh17 : Below wc6.heap.size wc6 wf17 := Bt hh13 belA
        have hq0 := hxbk15.later hf17; have cq0 := hq0.cell; have fq0 := hq0.free
        have hq1 := hxbk16.later hf17; have cq1 := hq1.cell; have fq1 := hq1.free
        clear hxbk15 hxbk16 hf17 hh13
        clear cX1 lX1 fX1
        go_wp2_with fail
        obtain ⟨wq18, EW⟩ : ∃ y, ((((wf17.setCell ⟨bk15, 0, none⟩ (.bool bA)).setCell ⟨bk15, 1, none⟩ (.slice paA lA caA)).setCell ⟨bk16, 0, none⟩ (.bool false)).setCell ⟨bk16, 1, none⟩ (.slice paB 0 caB)) = y := ⟨_, rfl⟩
        have hz : Below wc6.heap.size wc6 wq18 := by rw [← EW]; exact ((((hh17.setCell hNbk15 _).setCell hNbk15 _).setCell hNbk16 _).setCell hNbk16 _)
        have X3 : Hid (Box wq18 bk16 #[.bool false, .slice paB 0 caB] 95) := zh (by rw [← EW]; exact ((((hq1.setOther _ (by first | exact hne | exact hne2)).setOther _ (by first | exact hne | exact hne2)).set 0 _).set 1 _))
        rw [EW]
        clear EW hq0 cq0 fq0 hq1 cq1 fq1 hh17
        replace X1 := X1.bl hz
        have hk19 := Bt hk8 hz
        clear hk8
        clear hz
        clear hwa15 hAbk15 hAbk16 hWbk15 hWbk16 hwa16
        have hlbk15 := hNbk15; have hlbk16 := hNbk16; clear hNbk15 hNbk16 hltbk15 hltbk16
        go_wp2_with fail
        go_ret
        exact ⟨rfl, hk19⟩
      · have HD := zh hd
        have HG := zh (hg hd)
        have TX := zh (fun x W hx => Text_ok x (g : Int) W hx HG.out)
        obtain ⟨b, hb⟩ : ∃ b, (decide (0 < d) && (g == 1)) = b := ⟨_, rfl⟩
        have hT : ((⟨(Lib.itoa (g : Int)).toArray⟩ : ByteArray) == ⟨#[49]⟩) = b := by
          rw [← hb, decide_eq_true hd, Bool.true_and]
          by_cases h : g = 1
          · rw [h]; exact is_one
          · rw [not_one h]; exact (beq_eq_false_iff_ne.2 h).symm
        rw [hb]
        rw [beq_toListBytes, ByteArray.toList_eq (⟨#[49]⟩ : ByteArray)] at hT
        replace hT : ((⟨(Lib.itoa (g : Int)).toArray⟩ : ByteArray).toList == [49]) = b := hT
        generalize (⟨(Lib.itoa (g : Int)).toArray⟩ : ByteArray) = T at *
        clear e1 e2 h1 h2 hg hd hb
        go_enter Tryz.func56, Tryz.ntmps56
        go_wp2_with fail
        obtain ⟨wq1, EW, hz, X1⟩ := al1 w #[.string s, .string t] 40
        rw [EW]
        have hk2 := Bt (Below.refl _ _) hz
        clear EW hz
        refine (R1.out _).mono ?_
        rintro e wc3 ⟨rfl, hb3⟩
        replace X1 := X1.bl hb3
        have hk5 := Bt hk2 hb3
        clear hk2
        clear hb3
        obtain ⟨cX1, lX1, fX1⟩ := X1.clf
        go_wp2_with fail
        clear cX1 lX1 fX1
        refine (R2.out _).mono ?_
        rintro e wc6 ⟨rfl, hb6⟩
        replace X1 := X1.bl hb6
        have hk8 := Bt hk5 hb6
        clear hk5
        clear hb6
        go_wp2_with fail
        obtain ⟨cX1, lX1, fX1⟩ := X1.clf
        refine wp_region_walk [(.pure, 0), (.read, 1), (.pure, 3), (.read, 4), (.ext, 2), (.ext, 5), (.alloc #[.bool false, .slice none 0 0] 95, 6), (.alloc #[.bool false, .slice none 0 0] 95, 7), (.fin, 8), (.fin, 9)] zk zk zR zP ?_
        repeat (first | (refine walk_pure0 rfl rfl fun J h => ?_; go_simp; refine h _ ?_; clear h J) | (refine walk_load rfl rfl rfl rfl fun J h => ?_; go_simp; refine h _ ?_; clear h J; try go_simp))
        refine walk_ext rfl rfl (fun we9 hb9 J hJ => ?_); go_simp
        have hh9 : Below wc6.heap.size wc6 we9 := belA
        clear hb9
        refine (I1.out _).mono ?_
        rintro e wc10 ⟨v, rfl, hb10, hv11⟩
        obtain ⟨bA, paA, lA, caA, rfl⟩ := hv11.agg
        refine hJ _ _ hb10 ?_
        clear hJ J
        have hh10 := Bt hh9 hb10
        have NA := zh hv11
        clear hh9 hb10 hv11
        repeat (first | (refine walk_pure0 rfl rfl fun J h => ?_; go_simp; refine h _ ?_; clear h J) | (refine walk_load rfl rfl rfl rfl fun J h => ?_; go_simp; refine h _ ?_; clear h J; try go_simp))
        refine walk_ext rfl rfl (fun we12 hb12 J hJ => ?_); go_simp
        have hh12 : Below wc6.heap.size wc6 we12 := Bt hh10 belA
        replace NA := zh (NA.out.later (show Below wc10.heap.size wc10 we12 from belA))
        clear hb12 hh10
        refine (I2.out _).mono ?_
        rintro e wc13 ⟨v, rfl, hb13, hv⟩
        obtain ⟨bB, paB, lB, caB, rfl⟩ := hv.agg
        have hb1 : bB = false := hv.nm.2.trans (decide_eq_false (by have := HD.out; omega))
        subst hb1
        have hl0 : 0 < lB := hv.nm.1.lenp (by have := HD.out; omega)
        refine hJ _ _ hb13 ?_
        clear hJ J
        have hh13 := Bt hh12 hb13
        replace NA := zh (NA.out.later hb13)
        have NB := zh hv
        clear hh12 hb13 hv
        repeat (first | (refine walk_pure0 rfl rfl fun J h => ?_; go_simp; refine h _ ?_; clear h J) | (refine walk_load rfl rfl rfl rfl fun J h => ?_; go_simp; refine h _ ?_; clear h J; try go_simp))
        refine walk_alloc rfl (fun bk15 wa15 hwa15 hNbk15 hltbk15 hAbk15 hxbk15 => ?_); go_simp; replace hxbk15 : Box _ _ _ _ := hxbk15; have hWbk15 : w.heap.size ≤ bk15 := (by first | omega | exact Nat.le_trans (Below.size (B := w.heap.size) belA) hNbk15)
        refine walk_alloc rfl (fun bk16 wa16 hwa16 hNbk16 hltbk16 hAbk16 hxbk16 => ?_); go_simp; replace hxbk16 : Box _ _ _ _ := hxbk16; have hWbk16 : w.heap.size ≤ bk16 := (by first | omega | exact Nat.le_trans (Below.size (B := w.heap.size) belA) hNbk16)
        replace hxbk15 := Box.later hxbk15 hwa16
        have hne : bk15 ≠ bk16 := fun h => hAbk16 (by simp [h])
        have hne2 : bk16 ≠ bk15 := fun h => hne h.symm
        refine walk_fin [_, _] rfl (fun wf17 hf17 => ?_)
        replace NA := zh (NA.out.later (show Below wc13.heap.size wc13 wf17 from belA))
        replace NB := zh (NB.out.later (show Below wc13.heap.size wc13 wf17 from belA))
        have hh17 : Below wc6.heap.size wc6 wf17 := Bt hh13 belA
        have hq0 := hxbk15.later hf17; have cq0 := hq0.cell; have fq0 := hq0.free
        have hq1 := hxbk16.later hf17; have cq1 := hq1.cell; have fq1 := hq1.free
        clear hxbk15 hxbk16 hf17 hh13
        clear cX1 lX1 fX1
        go_wp2_with fail
        obtain ⟨wq18, EW⟩ : ∃ y, ((((wf17.setCell ⟨bk15, 0, none⟩ (.bool bA)).setCell ⟨bk15, 1, none⟩ (.slice paA lA caA)).setCell ⟨bk16, 0, none⟩ (.bool false)).setCell ⟨bk16, 1, none⟩ (.slice paB lB caB)) = y := ⟨_, rfl⟩
        have hz : Below wc6.heap.size wc6 wq18 := by rw [← EW]; exact ((((hh17.setCell hNbk15 _).setCell hNbk15 _).setCell hNbk16 _).setCell hNbk16 _)
        have X2 : Hid (Box wq18 bk15 #[.bool bA, .slice paA lA caA] 95) := zh (by rw [← EW]; exact ((((hq0.set 0 _).set 1 _).setOther _ (by first | exact hne | exact hne2)).setOther _ (by first | exact hne | exact hne2)))
        have X3 : Hid (Box wq18 bk16 #[.bool false, .slice paB lB caB] 95) := zh (by rw [← EW]; exact ((((hq1.setOther _ (by first | exact hne | exact hne2)).setOther _ (by first | exact hne | exact hne2)).set 0 _).set 1 _))
        have t := ((((NA.out.setOther hq0 zd 0 (.bool bA)).setOther (hq0.set 0 _) zd 1 (.slice paA lA caA)).setOther ((hq1.setOther _ (by first | exact hne | exact hne2)).setOther _ (by first | exact hne | exact hne2)) zd 0 (.bool false)).setOther (((hq1.setOther _ (by first | exact hne | exact hne2)).setOther _ (by first | exact hne | exact hne2)).set 0 _) zd 1 (.slice paB lB caB))
        rw [EW] at t
        replace NA := zh t
        clear t
        have t := ((((NB.out.setOther hq0 zd 0 (.bool bA)).setOther (hq0.set 0 _) zd 1 (.slice paA lA caA)).setOther ((hq1.setOther _ (by first | exact hne | exact hne2)).setOther _ (by first | exact hne | exact hne2)) zd 0 (.bool false)).setOther (((hq1.setOther _ (by first | exact hne | exact hne2)).setOther _ (by first | exact hne | exact hne2)).set 0 _) zd 1 (.slice paB lB caB))
        rw [EW] at t
        replace NB := zh t
        clear t
        rw [EW]
        clear EW hq0 cq0 fq0 hq1 cq1 fq1 hh17
        replace X1 := X1.bl hz
        have hk19 := Bt hk8 hz
        clear hk8
        clear hz
        clear hwa15 hAbk15 hAbk16 hWbk15 hWbk16 hwa16
        have hlbk15 := hNbk15; have hlbk16 := hNbk16; clear hNbk15 hNbk16 hltbk15 hltbk16
        go_wp2_with fail
        refine (DV.out _ _ _ NA.out NB.out).mono ?_
        rintro e wc20 ⟨v, rfl, hb20, hv21⟩
        obtain ⟨bC, paC, lC, caC, rfl⟩ := hv21.agg
        clear X1
        replace X2 := X2.bl hb20
        replace X3 := X3.bl hb20
        replace NA := zh (NA.out.later hb20)
        replace NB := zh (NB.out.later hb20)
        have hk22 := Bt hk19 hb20
        clear hk19
        have NC := zh hv21
        clear hb20 hv21
        go_wp2_with fail
        refine (TX.out _ _ NC.out).mono ?_
        rintro e wc23 ⟨rfl, hb23⟩
        replace X2 := X2.bl hb23
        replace X3 := X3.bl hb23
        replace NA := zh (NA.out.later hb23)
        replace NB := zh (NB.out.later hb23)
        replace NC := zh (NC.out.later hb23)
        have hk25 := Bt hk22 hb23
        clear hk22
        clear hb23
        go_wp2_with fail
        go_ret
        exact ⟨rfl, hk25⟩
theorem rightF {a : Fr} {b : Bool} (h : (rd a).isSome = b) (hf : Fits a) (W : World) : Calls Tryz.prog 56 #[a.v] W (fun e w' => e = .returned (.bool b) ∧ Below W.heap.size W w') :=
  h ▸ Right_ok a.n a.d W hf.1 hf.2
theorem rd_parts {s t : ByteArray} {q : Rat} (h : rd ⟨s, t⟩ = some q) : whole s.data.toList = some q.num ∧ whole t.data.toList = some (q.den : Int) := by
  unfold rd at h
  split at h
  · rename_i n d e1 e2
    split at h
    · rename_i hk
      simp only [Option.some.injEq] at h
      subst h
      refine ⟨e1, e2.trans ?_⟩
      congr 1
      have := hk.1
      show d = ((d.natAbs : Nat) : Int)
      omega
    · cases h
  · cases h
theorem In_ok (s t : ByteArray) (q : Rat) (w : World) (h : rd ⟨s, t⟩ = some q) : Calls Tryz.prog 58 #[.agg #[.string s, .string t]] w (RaPost w q) := by
  obtain ⟨e1, e2⟩ := rd_parts h
  have I1 := zh (fun W => verdigrisref01.In_ok s q.num W e1)
  have I2 := zh (fun W => verdigrisref01.In_ok t (q.den : Int) W e2)
  clear h e1 e2
  go_enter Tryz.func58, Tryz.ntmps58
  go_wp2_with fail
  obtain ⟨wq1, EW, hz, X1, X2⟩ := al2 w #[.string s, .string t] 40 #[.bool false, .slice none 0 0, .bool false, .slice none 0 0] 97
  rw [EW]
  have hk2 := Bt (Below.refl _ _) hz
  clear EW hz
  obtain ⟨cX1, lX1, fX1⟩ := X1.clf
  refine wp_region_walk [(.pure, 0), (.read, 1), (.pure, 3), (.read, 4), (.ext, 2), (.ext, 5), (.pure, 6), (.fin, 7)] zk zk zR zP ?_
  repeat (first | (refine walk_pure0 rfl rfl fun J h => ?_; go_simp; refine h _ ?_; clear h J) | (refine walk_load rfl rfl rfl rfl fun J h => ?_; go_simp; refine h _ ?_; clear h J; try go_simp))
  refine walk_ext rfl rfl (fun we3 hb3 J hJ => ?_); go_simp
  have hh3 : Below wq1.heap.size wq1 we3 := belA
  clear hb3
  refine (I1.out _).mono ?_
  rintro e wc4 ⟨v, rfl, hb4, hv5⟩
  obtain ⟨bA, paA, lA, caA, rfl⟩ := hv5.agg
  refine hJ _ _ hb4 ?_
  clear hJ J
  have hh4 := Bt hh3 hb4
  have NA := zh hv5
  clear hh3 hb4 hv5
  repeat (first | (refine walk_pure0 rfl rfl fun J h => ?_; go_simp; refine h _ ?_; clear h J) | (refine walk_load rfl rfl rfl rfl fun J h => ?_; go_simp; refine h _ ?_; clear h J; try go_simp))
  refine walk_ext rfl rfl (fun we6 hb6 J hJ => ?_); go_simp
  have hh6 : Below wq1.heap.size wq1 we6 := Bt hh4 belA
  replace NA := zh (NA.out.later (show Below wc4.heap.size wc4 we6 from belA))
  clear hb6 hh4
  refine (I2.out _).mono ?_
  rintro e wc7 ⟨v, rfl, hb7, hv8⟩
  obtain ⟨bB, paB, lB, caB, rfl⟩ := hv8.agg
  refine hJ _ _ hb7 ?_
  clear hJ J
  have hh7 := Bt hh6 hb7
  replace NA := zh (NA.out.later hb7)
  have NB := zh hv8
  clear hh6 hb7 hv8
  repeat (first | (refine walk_pure0 rfl rfl fun J h => ?_; go_simp; refine h _ ?_; clear h J) | (refine walk_load rfl rfl rfl rfl fun J h => ?_; go_simp; refine h _ ?_; clear h J; try go_simp))
  refine walk_fin [_] rfl (fun wf9 hf9 => ?_)
  replace NA := zh (NA.out.later (show Below wc7.heap.size wc7 wf9 from belA))
  replace NB := zh (NB.out.later (show Below wc7.heap.size wc7 wf9 from belA))
  have hh9 : Below wq1.heap.size wq1 wf9 := Bt hh7 belA
  clear hf9 hh7
  clear cX1 lX1 fX1
  replace X1 := X1.bl hh9
  replace X2 := X2.bl hh9
  have hk10 := Bt hk2 hh9
  clear hk2
  clear hh9
  obtain ⟨cX2, lX2, fX2⟩ := X2.clf
  have hres := X2.out
  have cres := hres.cell
  have fres := hres.free
  go_wp2_with fail
  refine ret_c rfl rfl boxA Tryz.underlying97 rfl zk ?_
  exact ⟨_, rfl, belA, _, _, _, _, _, _, _, _, rfl, Pl.set4 NA.out hres zd _ _ _ _, Pl.set4 NB.out hres zd _ _ _ _⟩
end Go.Proofs.verdigrisref02
namespace Go.Proofs.verdigrisref04
open Go Go.RowKit Go.SW Go.Num Go.Mem Go.Proofs Go.Dec Go.Fra Go.Proofs.verdigrisref01
def rex (a q : Nat) : Bool := decide (iroot q a ^ q = a)
theorem cmp_rex {a q : Nat} : decide (cmpz (((iroot q a : Nat) : Int) ^ q) (a : Int) = 0) = rex a q := by
  unfold rex cmpz
  rw [← Int.natCast_pow]
  by_cases h : iroot q a ^ q = a
  · rw [h]
    simp
  · rw [decide_eq_false h]
    split
    · simp
    · rw [if_pos zo]
      simp
theorem root_ok (x : Value) (a q : Nat) (w : World) (hx : Pl w x (a : Int)) (q1 : 1 ≤ q) (q12 : q ≤ 12) (hs : sz 10000 a ≤ 100000) :
    Calls Tryz.prog 64 #[x, .int .i64 q] w (fun e w' => ∃ v, e = .returned (.tuple #[v, .bool (rex a q)]) ∧ Below w.heap.size w w' ∧ Pl w' v (iroot q a : Nat)) := by
  obtain ⟨bA, pA, lA, cA, rfl⟩ := hx.agg
  have NX := zh hx
  have HS := zh hs
  have HQ := zh (And.intro q1 q12)
  have HI : Hid (iroot q a ≤ a) := zh (iroot_le zo (Nat.lt_of_lt_of_le (Nat.lt_succ_self a) (Nat.le_self_pow zo _)))
  have HC := zh (cmp_rex (a := a) (q := q))
  have HFL := zh (fun x W (h : Pl W x (a : Int)) => Floor_ok x a q W h zo q12 hs)
  generalize rex a q = bx at *
  obtain ⟨r, er⟩ : ∃ r, iroot q a = r := ⟨_, rfl⟩
  rw [er] at HI HC HFL
  rw [er]
  clear hx hs q1 q12 er
  go_enter Tryz.func64, Tryz.ntmps64
  go_wp2_with fail
  obtain ⟨wx, EW, hz, X2, X4⟩ := al2 w #[.bool bA, .slice pA lA cA] 95 #[.bool false, .slice none 0 0] 95
  rw [EW]
  clear EW
  refine (HFL.out _ _ (NX.out.later hz)).mono ?_
  rintro e w1 ⟨v, rfl, hb, hv⟩
  obtain ⟨bR, pR, nR, eR, rfl⟩ := (hv).agg; have R := zh hv; clear hv
  replace X2 := X2.bl hb
  replace X4 := X4.bl hb
  have HB := zh (Bt hz hb)
  clear hz hb
  go_wp2_with fail
  obtain ⟨wy, EW, hz, X6⟩ := al1 w1 #[.bool bR, .slice pR nR eR] 95
  rw [EW]
  clear EW
  replace X2 := X2.bl hz
  replace X4 := X4.bl hz
  replace HB := zh (Bt HB.out hz)
  replace R := zh (R.out.later hz)
  clear hz
  obtain ⟨g, eg⟩ : ∃ g, w1.heap.size = g := ⟨_, rfl⟩
  rw [eg] at X6 ⊢
  clear eg
  obtain ⟨c2, l2⟩ := X2.cl
  obtain ⟨c6, l6⟩ := X6.cl
  have HSR : Hid (sz 10000 r ≤ 100000) := zh (Nat.le_trans (sz_mono zo HI.out) HS.out)
  refine wp_region_walk [(.read, 0), (.read, 1), (.pure, 2), (.read, 4), (.ext, 3), (.ext, 5), (.pure, 6), (.fin, 7), (.fin, 8)] zk zk zR zP ?_
  refine Wk.out ?_
  repeat (first | (apply wk_skip; (rfl); (rfl); (rfl); (intro J hJ; go_simp; (with_reducible refine hJ _ ?_); clear hJ J)) | (apply wk_len; (rfl); (rfl); (rfl); (rfl); (exact zk); (intro J hJ; go_simp; (with_reducible refine hJ _ ?_); clear hJ J)) | (apply wk_pure; (rfl); (rfl); (intro J hJ; go_simp; (with_reducible refine hJ _ ?_); clear hJ J)) | (apply wk_load; (rfl); (rfl); (rfl); (rfl); (intro J hJ; go_simp; (with_reducible refine hJ _ ?_); clear hJ J; try go_simp)))
  refine wk_ext rfl rfl (fun wa1 ha1 J hJ => ?_)
  have hs1 : Below wy.heap.size wy wa1 := (by first | exact ha1 | exact belA)
  have hx1 : Below wy.heap.size wy wa1 := hs1
  go_simp
  refine (Raised_ok _ (r : Int) q wa1 (R.out.later hs1) (by rw [Int.natAbs_natCast]; have := Nat.mul_le_mul HSR.out HQ.out.2; omega) (by rw [Int.natAbs_natCast]; have := HSR.out; omega) (by have := HQ.out.2; omega)).mono ?_
  rintro e wb1 ⟨v, rfl, hb1, hv⟩
  refine hJ _ _ hb1 ?_
  have hy1 := Bt hx1 hb1
  replace R := zh (R.out.later (Bt hs1 hb1))
  obtain ⟨bP, pP, nP, eP, rfl⟩ := (hv).agg; have P := zh hv; clear hv
  clear hJ J ha1 hb1 hs1 hx1
  replace HC : Hid (decide (cmpz ((r : Int) ^ q) (a : Int) = 0) = bx) := HC
  have HO := zh (fun x y W (h1 : Pl W x ((r : Int) ^ q)) (h2 : Pl W y (a : Int)) => Order_ok x y ((r : Int) ^ q) (a : Int) W h1 h2 (by have := sz_powi (a := (r : Int)) (i := q) (n := q) (Nat.le_refl _) (by rw [Int.natAbs_natCast]; have := Nat.mul_le_mul HSR.out HQ.out.2; omega); omega) (by rw [Int.natAbs_natCast]; have := HS.out; omega))
  generalize cmpz ((r : Int) ^ q) (a : Int) = cv at *
  repeat (first | (apply wk_skip; (rfl); (rfl); (rfl); (intro J hJ; go_simp; (with_reducible refine hJ _ ?_); clear hJ J)) | (apply wk_len; (rfl); (rfl); (rfl); (rfl); (exact zk); (intro J hJ; go_simp; (with_reducible refine hJ _ ?_); clear hJ J)) | (apply wk_pure; (rfl); (rfl); (intro J hJ; go_simp; (with_reducible refine hJ _ ?_); clear hJ J)) | (apply wk_load; (rfl); (rfl); (rfl); (rfl); (intro J hJ; go_simp; (with_reducible refine hJ _ ?_); clear hJ J; try go_simp)))
  refine wk_ext rfl rfl (fun wa2 ha2 J hJ => ?_)
  have hs2 : Below wb1.heap.size wb1 wa2 := (by first | exact ha2 | exact belA)
  have hx2 : Below wy.heap.size wy wa2 := Bt hy1 hs2
  go_simp
  refine (HO.out _ _ wa2 (P.out.later hs2) (NX.out.later (Bt HB.out hx2))).mono ?_
  rintro e wb2 ⟨rfl, hb2⟩
  refine hJ _ _ hb2 ?_
  have hy2 := Bt hx2 hb2
  replace R := zh (R.out.later (Bt hs2 hb2))
  skip
  clear hJ J ha2 hb2 hs2 hx2 hy1
  repeat (first | (apply wk_skip; (rfl); (rfl); (rfl); (intro J hJ; go_simp; (with_reducible refine hJ _ ?_); clear hJ J)) | (apply wk_len; (rfl); (rfl); (rfl); (rfl); (exact zk); (intro J hJ; go_simp; (with_reducible refine hJ _ ?_); clear hJ J)) | (apply wk_pure; (rfl); (rfl); (intro J hJ; go_simp; (with_reducible refine hJ _ ?_); clear hJ J)) | (apply wk_load; (rfl); (rfl); (rfl); (rfl); (intro J hJ; go_simp; (with_reducible refine hJ _ ?_); clear hJ J; try go_simp)))
  have ec : (cv == 0) = bx := HC.out
  rw [ec]
  refine wk_fin [_, _] rfl (fun wf hbf => ?_)
  replace X4 := (X4.bl hy2).bl hbf
  replace HB := zh (Bt (Bt HB.out hy2) hbf)
  replace R := zh (R.out.later hbf)
  clear hbf hy2 c2 l2 c6 l6 HO HC ec
  obtain ⟨c4, l4, f4⟩ := X4.clf
  have x4 := X4.out
  have hb := HB.out
  go_wp2_with fail
  refine ret_ct rfl rfl boxA Tryz.underlying95 rfl zk ?_
  exact ⟨_, rfl, belA, R.out.set2 x4 zd _ _ _ _⟩
end Go.Proofs.verdigrisref04
namespace Go.Num
theorem bez : ∀ p, p < 37 → ∀ q, q < 13 → 2 ≤ q → p.gcd q = 1 → ∃ u, u < 13 ∧ (u * p) % q = 1 := by decide +kernel
theorem pow_inj {a b k : Nat} (hk : 0 < k) (h : a ^ k = b ^ k) : a = b := by
  rcases Nat.lt_trichotomy a b with h1 | h1 | h1
  · have := Nat.pow_lt_pow_left h1 (by omega : k ≠ 0); omega
  · exact h1
  · have := Nat.pow_lt_pow_left h1 (by omega : k ≠ 0); omega
theorem root_of_pow {n N p q : Nat} (p36 : p ≤ 36) (q1 : 1 ≤ q) (q12 : q ≤ 12) (hc : p.gcd q = 1) (h : n ^ q = N ^ p) : ∃ m, m ^ q = N := by
  rcases Nat.eq_or_lt_of_le q1 with e | h2
  · exact ⟨N, by rw [← e, Nat.pow_one]⟩
  rcases Nat.eq_zero_or_pos N with h0 | h0
  · exact ⟨0, by rw [h0, Nat.zero_pow zo]⟩
  obtain ⟨u, -, hu⟩ := bez p zo q zo h2 hc
  obtain ⟨v, hv⟩ : ∃ v, u * p = q * v + 1 := ⟨u * p / q, by have := Nat.div_add_mod (u * p) q; omega⟩
  have e1 : (n ^ u) ^ q = N * (N ^ v) ^ q := by
    calc (n ^ u) ^ q = n ^ (u * q) := (Nat.pow_mul ..).symm
      _ = n ^ (q * u) := by rw [Nat.mul_comm]
      _ = (n ^ q) ^ u := Nat.pow_mul ..
      _ = (N ^ p) ^ u := by rw [h]
      _ = N ^ (p * u) := (Nat.pow_mul ..).symm
      _ = N ^ (q * v + 1) := by rw [Nat.mul_comm, hv]
      _ = N ^ (q * v) * N := Nat.pow_succ ..
      _ = N * N ^ (v * q) := by rw [Nat.mul_comm, Nat.mul_comm q v]
      _ = N * (N ^ v) ^ q := by rw [Nat.pow_mul]
  have e2 : N ^ v ∣ n ^ u := (Nat.pow_dvd_pow_iff (by omega : q ≠ 0)).1 ⟨N, by rw [e1, Nat.mul_comm]⟩
  obtain ⟨m, hm⟩ := e2
  refine ⟨m, ?_⟩
  rw [hm, Nat.mul_pow, Nat.mul_comm] at e1
  exact Nat.eq_of_mul_eq_mul_right (Nat.pow_pos (Nat.pow_pos h0)) e1
theorem iroot_pow {x k : Nat} (hk : 0 < k) : iroot k (x ^ k) = x := iroot_eq hk (Nat.le_refl _) (Nat.pow_lt_pow_left (Nat.lt_succ_self x) zo)
theorem exact_iff {N p q : Nat} (p1 : 1 ≤ p) (p36 : p ≤ 36) (q1 : 1 ≤ q) (q12 : q ≤ 12) :
    (iroot q (N ^ p) ^ q = N ^ p ↔ iroot (q / p.gcd q) N ^ (q / p.gcd q) = N) ∧ (iroot (q / p.gcd q) N ^ (q / p.gcd q) = N → iroot q (N ^ p) = iroot (q / p.gcd q) N ^ (p / p.gcd q)) := by
  have hg : 0 < p.gcd q := Nat.gcd_pos_of_pos_left _ p1
  have hc : (p / p.gcd q).gcd (q / p.gcd q) = 1 := by rw [Nat.gcd_div (Nat.gcd_dvd_left p q) (Nat.gcd_dvd_right p q), Nat.div_self hg]
  obtain ⟨a, ha⟩ := Nat.gcd_dvd_left p q
  obtain ⟨b, hb⟩ := Nat.gcd_dvd_right p q
  generalize p.gcd q = g at *
  have da : p / g = a := by rw [ha, Nat.mul_div_cancel_left _ hg]
  have db : q / g = b := by rw [hb, Nat.mul_div_cancel_left _ hg]
  rw [da, db] at hc
  rw [da, db]
  have hb1 : 1 ≤ b := by
    rcases Nat.eq_zero_or_pos b with h | h
    · rw [h, Nat.mul_zero] at hb; omega
    · exact h
  have up : ∀ m, m ^ b = N → (m ^ a) ^ q = N ^ p := fun m hm => by
    rw [← hm, ← Nat.pow_mul, ← Nat.pow_mul, ha, hb]
    congr 1
    ac_rfl
  have two : iroot b N ^ b = N → iroot q (N ^ p) = iroot b N ^ a := fun h => by
    rw [← up _ h, iroot_pow zo]
  refine ⟨⟨fun h => ?_, fun h => ?_⟩, two⟩
  · have e : iroot q (N ^ p) ^ b = N ^ a := by
      refine pow_inj hg ?_
      rw [← Nat.pow_mul, ← Nat.pow_mul, Nat.mul_comm b, Nat.mul_comm a, ← hb, ← ha]
      exact h
    have hga : a ≤ p := by rw [ha]; exact Nat.le_mul_of_pos_left _ hg
    have hgb : b ≤ q := by rw [hb]; exact Nat.le_mul_of_pos_left _ hg
    obtain ⟨m, hm⟩ := root_of_pow zo hb1 zo hc e
    rw [← hm, iroot_pow zo]
  · rw [two h]
    exact up _ h
end Go.Num
namespace Go.Proofs.verdigrisref04
open Go Go.RowKit Go.SW Go.Num Go.Mem Go.Proofs Go.Dec Go.Fra Go.Proofs.verdigrisref01 Go.Proofs.verdigrisref02 Go.Proofs.power
theorem exQ_eq (r : Rat) (p q : Nat) (p1 : 1 ≤ p) (p36 : p ≤ 36) (q1 : 1 ≤ q) (q12 : q ≤ 12) :
    ((rex (r.num.natAbs ^ p) q && rex (r.den ^ p) q) = false → exQ r p q = (Fr.no, 4)) ∧
    (rex (r.num.natAbs ^ p) q = true → rex (r.den ^ p) q = true → ∃ s : Rat, exQ r p q = wr s ∧ s.num = (iroot q (r.num.natAbs ^ p) : Nat) ∧ s.den = iroot q (r.den ^ p)) := by
  obtain ⟨a1, a2⟩ := exact_iff (N := r.num.natAbs) p1 p36 q1 q12
  obtain ⟨b1, b2⟩ := exact_iff (N := r.den) p1 p36 q1 q12
  unfold exQ rex
  constructor
  · intro h
    rw [if_neg]
    rintro ⟨k1, k2⟩
    rw [decide_eq_true (a1.2 k1), decide_eq_true (b1.2 k2)] at h
    cases h
  · intro h1 h2
    have k1 := a1.1 (of_decide_eq_true h1)
    have k2 := b1.1 (of_decide_eq_true h2)
    rw [if_pos ⟨k1, k2⟩]
    have hg : 0 < p.gcd q := Nat.gcd_pos_of_pos_left _ p1
    have hb : 0 < q / p.gcd q := Nat.div_pos (Nat.le_of_dvd zo (Nat.gcd_dvd_right p q)) hg
    have hco := coprime_root hb r.reduced k1 k2
    have hd0 : iroot (q / p.gcd q) r.den ≠ 0 := fun e => by
      rw [e, Nat.zero_pow hb] at k2
      exact r.den_nz k2.symm
    obtain ⟨m1, m2⟩ := mk_low hd0 hco
    refine ⟨_, rfl, ?_, ?_⟩
    · rw [Rat.num_pow, m1, a2 k1, Int.natCast_pow]
    · rw [Rat.den_pow, m2, b2 k2]
theorem iroot_self {q a : Nat} (hq : 1 ≤ q) : iroot q a ≤ a := iroot_le zo (Nat.lt_of_lt_of_le (Nat.lt_succ_self a) (Nat.le_self_pow zo _))
theorem pow_sz5 {n p : Nat} (h : okn n = true) (hp : p ≤ 36) : sz 10000 (n ^ p) ≤ 100000 := by
  have h1 : sz 10000 n ≤ 201 := by
    have := sz4_of (okn_sz h)
    omega
  have h2 := sz_pow n p
  have h3 := Nat.mul_le_mul h1 hp
  omega
theorem Exact_ok (x : Fr) (p q : Int) (hf : Fits x) (w : World) :
    Calls Tryz.prog 24 #[x.v, .int .i64 p, .int .i64 q] w (fun e w' => e = .returned (Fr.res (exE x p q)) ∧ Below w.heap.size w w') := by
  obtain ⟨s, t⟩ := x
  obtain ⟨z, hz0⟩ : ∃ z, exE ⟨s, t⟩ p q = z := ⟨_, rfl⟩
  rw [hz0]
  unfold exE at hz0
  have HZ := zh hz0
  clear hz0
  obtain ⟨⟨yn, yd⟩, ye⟩ := z
  have HR := zh (fun W => rightF (a := ⟨s, t⟩) rfl hf W)
  have HI := zh (fun r (h : rd ⟨s, t⟩ = some r) W => verdigrisref02.In_ok s t r W h)
  have HE := zh (fun W => right_ok p q W)
  clear hf
  rw [res_mk]
  simp only [Fr.v] at HR ⊢
  generalize hrd : rd ⟨s, t⟩ = rx at *
  go_enter Tryz.func24, Tryz.ntmps24
  go_wp2_with fail
  obtain ⟨wx, EW, hz, X3, X6⟩ := al2 w #[.string s, .string t] 40 #[.string ⟨#[]⟩, .string ⟨#[]⟩] 40
  rw [EW]
  clear EW
  refine (HR.out _).mono ?_
  rintro e w1 ⟨rfl, hb⟩
  replace X3 := X3.bl hb
  replace X6 := X6.bl hb
  have HB := zh (Bt hz hb)
  clear hz hb HR
  cases rx with
  | none =>
    have e := HZ.out
    simp only [Prod.mk.injEq] at e
    obtain ⟨e1, rfl⟩ := e
    obtain ⟨rfl, rfl⟩ : yn = ⟨#[]⟩ ∧ yd = ⟨#[]⟩ := by cases e1; exact ⟨rfl, rfl⟩
    obtain ⟨c6, l6, f6⟩ := X6.clf
    have x6 := X6.out
    have hb := HB.out
    go_wp2_with fail
    refine ret_ct rfl rfl boxA Tryz.underlying40 rfl zk ?_
    exact ⟨rfl, belA⟩
  | some r =>
    have hok := (of_rd hrd).2
    have HOK := zh hok
    obtain ⟨c3, l3⟩ := X3.cl
    go_wp2_with fail
    refine (HI.out r rfl _).mono ?_
    rintro e w2 ⟨v, rfl, hb, hv⟩
    obtain ⟨bR, pR, nR, eR, dR, qR, mR, fR, rfl, hN, hD⟩ := id hv
    have HBR := zh hN.nm.2
    have R := zh hv
    replace X6 := X6.bl hb
    replace HB := zh (Bt HB.out hb)
    clear hb c3 l3 X3 HI hv hN hD
    go_wp2_with fail
    obtain ⟨wy, EW, hz, X8⟩ := al1 w2 #[.bool bR, .slice pR nR eR, .bool dR, .slice qR mR fR] 97
    rw [EW]
    clear EW
    have hg0 := HB.out.size
    obtain ⟨g, eg⟩ : ∃ g, w2.heap.size = g := ⟨_, rfl⟩
    rw [eg] at X8 hg0 ⊢
    have HG := zh hg0
    clear eg hg0
    refine (HE.out _).mono ?_
    rintro e w3 ⟨rfl, hb⟩
    replace X8 := X8.bl hb
    replace X6 := (X6.bl hz).bl hb
    replace HB := zh (Bt (Bt HB.out hz) hb)
    replace R := zh (R.out.later (Bt hz hb))
    clear hz hb HE
    obtain ⟨c8, l8⟩ := X8.cl
    have HQ := zh (fun h : eok p q = true => show 1 ≤ p ∧ p ≤ 36 ∧ 1 ≤ q ∧ q ≤ 12 by simpa [eok] using h)
    have HNEG : Hid (decide (r.num < 0) = decide (r < 0)) := zh (by
      have := Rat.num_nonneg (q := r)
      by_cases h : r < 0
      · rw [decide_eq_true h, decide_eq_true]
        have h2 : ¬ 0 ≤ r := by grind
        rw [← this] at h2
        omega
      · rw [decide_eq_false h, decide_eq_false]
        have h2 : 0 ≤ r := by grind
        rw [← this] at h2
        omega)
    generalize eok p q = eo at *
    cases eo
    · have e := HZ.out
      simp only [true_or, if_true, Prod.mk.injEq] at e
      obtain ⟨e1, rfl⟩ := e
      obtain ⟨rfl, rfl⟩ : yn = ⟨#[]⟩ ∧ yd = ⟨#[]⟩ := by cases e1; exact ⟨rfl, rfl⟩
      obtain ⟨c6, l6, f6⟩ := X6.clf
      have x6 := X6.out
      have hb := HB.out
      go_wp2_with fail
      refine ret_ct rfl rfl boxA Tryz.underlying40 rfl zk ?_
      exact ⟨rfl, belA⟩
    · obtain ⟨p1, p36, q1, q12⟩ := HQ.out (by first | rfl | trivial)
      cases bR
      · have hnn : ¬ r.num < 0 := of_decide_eq_false HBR.out.symm
        have hnr : ¬ r < 0 := by
          have := HNEG.out
          rw [← HBR.out] at this
          exact of_decide_eq_false this.symm
        obtain ⟨p, rfl⟩ : ∃ a : Nat, p = (a : Int) := ⟨p.toNat, by omega⟩
        obtain ⟨q, rfl⟩ : ∃ a : Nat, q = (a : Int) := ⟨q.toNat, by omega⟩
        have hp1 : 1 ≤ p := by omega
        have hp : p ≤ 36 := by omega
        have hq1 : 1 ≤ q := by omega
        have hq12 : q ≤ 12 := by omega
        obtain ⟨x1, x2⟩ := exQ_eq r p q hp1 hp hq1 hq12
        have e := HZ.out
        simp only [Bool.true_eq_false, false_or, hnr, if_false, Int.toNat_natCast] at e
        rw [e] at x1 x2
        have HX1 := zh x1
        have HX2 := zh x2
        obtain ⟨k1, k2⟩ : okn r.num.natAbs = true ∧ okn r.den = true := by
          have := HOK.out
          unfold okq at this
          rwa [Bool.and_eq_true] at this
        have S1 := zh (pow_sz5 k1 hp)
        have S2 := zh (pow_sz5 k2 hp)
        have hn : (r ^ p).num = ((r.num.natAbs ^ p : Nat) : Int) := by
          rw [Rat.num_pow, Int.natCast_pow, Int.natAbs_of_nonneg zo]
        have hd : ((r ^ p).den : Int) = ((r.den ^ p : Nat) : Int) := by rw [Rat.den_pow]
        have HN := zh hn
        have HD := zh hd
        have T1 : Hid (sz 10000 r.num.natAbs ≤ 201 ∧ sz 10000 r.den ≤ 201) := zh ⟨by have := sz4_of (okn_sz k1); omega, by have := sz4_of (okn_sz k2); omega⟩
        have HPQ := zh (And.intro hp (And.intro hq1 hq12))
        clear e x1 x2 k1 k2 hn hd HZ HNEG HQ p1 p36 q1 q12 hp1 hp hq1 hq12 hnn hnr HBR
        go_wp2_with fail
        refine (verdigrisref02.Raised_ok _ r p w3 R.out (by have := Nat.mul_le_mul T1.out.1 HPQ.out.1; omega) (by have := Nat.mul_le_mul T1.out.2 HPQ.out.1; omega) (by have := T1.out; omega) (by have := T1.out; omega) (by have := HPQ.out; omega)).mono ?_
        rintro e w4 ⟨v, rfl, hb, hv⟩
        obtain ⟨bU, pU, nU, eU, dU, qU, mU, fU, rfl, hN, hD⟩ := id hv
        replace X8 := X8.bl hb
        replace X6 := X6.bl hb
        replace HB := zh (Bt HB.out hb)
        rw [HN.out] at hN
        rw [HD.out] at hD
        have UN := zh hN
        have UD := zh hD
        clear hb hv hN hD c8 l8 R
        obtain ⟨c8, l8, f8⟩ := X8.clf
        go_wp2_with fail
        have hne := X6.out.ne X8.out zd
        have hg := HG.out
        obtain ⟨ws, ES⟩ : ∃ y, (((w4.setCell ⟨g, 0, none⟩ (.bool bU)).setCell ⟨g, 1, none⟩ (.slice pU nU eU)).setCell ⟨g, 2, none⟩ (.bool dU)).setCell ⟨g, 3, none⟩ (.slice qU mU fU) = y := ⟨_, rfl⟩
        have hx8 : Box ws g #[.bool bU, .slice pU nU eU, .bool dU, .slice qU mU fU] 97 := by
          rw [← ES]
          exact (((X8.out.set 0 _).set 1 _).set 2 _).set 3 _
        have hx6 : Box ws (w.heap.size + 1) #[.string ⟨#[]⟩, .string ⟨#[]⟩] 40 := by
          rw [← ES]
          exact (((X6.out.setOther _ hne).setOther _ hne).setOther _ hne).setOther _ hne
        have hbs : Below w.heap.size w ws := by
          rw [← ES]
          exact (((HB.out.setCell hg _).setCell hg _).setCell hg _).setCell hg _
        replace UN := zh (Pl.set4 UN.out X8.out zd (.bool bU) (.slice pU nU eU) (.bool dU) (.slice qU mU fU))
        replace UD := zh (Pl.set4 UD.out X8.out zd (.bool bU) (.slice pU nU eU) (.bool dU) (.slice qU mU fU))
        rw [ES] at UN UD ⊢
        replace X8 := zh hx8
        replace X6 := zh hx6
        replace HB := zh hbs
        clear ES hx8 hx6 hbs hne hg c8 l8 f8 HG
        refine (root_ok _ (r.num.natAbs ^ p) q ws UN.out HPQ.out.2.1 HPQ.out.2.2 S1.out).mono ?_
        rintro e w5 ⟨v5, rfl, hb, hv5⟩
        obtain ⟨bRN, pRN, nRN, eRN, rfl⟩ := (hv5).agg; have RN := zh hv5; clear hv5
        replace X8 := X8.bl hb
        replace X6 := X6.bl hb
        replace HB := zh (Bt HB.out hb)
        replace UD := zh (UD.out.later hb)
        clear hb UN
        obtain ⟨c8, l8⟩ := X8.cl
        obtain ⟨wz, EW, hz, X9⟩ := al1 w5 #[.bool bRN, .slice pRN nRN eRN] 95
        replace c8 := (X8.bl hz).cl.1
        have l8 := (X8.bl hz).cl.2
        go_wp2_with fail
        (try rw [EW])
        clear EW
        replace X8 := X8.bl hz
        replace X6 := X6.bl hz
        replace HB := zh (Bt HB.out hz)
        replace UD := zh (UD.out.later hz)
        replace RN := zh (RN.out.later hz)
        obtain ⟨g9, eg⟩ : ∃ g, w5.heap.size = g := ⟨_, rfl⟩
        rw [eg] at X9 ⊢
        clear eg hz
        refine (root_ok _ (r.den ^ p) q wz UD.out HPQ.out.2.1 HPQ.out.2.2 S2.out).mono ?_
        rintro e w6 ⟨v6, rfl, hb, hv6⟩
        obtain ⟨bRD, pRD, nRD, eRD, rfl⟩ := (hv6).agg; have RD := zh hv6; clear hv6
        replace X9 := X9.bl hb
        replace X6 := X6.bl hb
        replace HB := zh (Bt HB.out hb)
        replace RN := zh (RN.out.later hb)
        clear hb UD c8 l8 X8
        obtain ⟨wq, EW, hz, X11⟩ := al1 w6 #[.bool bRD, .slice pRD nRD eRD] 95
        replace X9 := X9.bl hz
        replace X6 := X6.bl hz
        replace HB := zh (Bt HB.out hz)
        replace RN := zh (RN.out.later hz)
        replace RD := zh (RD.out.later hz)
        obtain ⟨g11, eg⟩ : ∃ g, w6.heap.size = g := ⟨_, rfl⟩
        rw [eg] at X11
        obtain ⟨c9, l9⟩ := X9.cl
        obtain ⟨c11, l11⟩ := X11.cl
        obtain ⟨c6, l6, f6⟩ := X6.clf
        have x6 := X6.out
        generalize rex (r.num.natAbs ^ p) q = b1 at *
        generalize rex (r.den ^ p) q = b2 at *
        by_cases hbb : (b1 && b2) = true
        · obtain ⟨rfl, rfl⟩ : b1 = true ∧ b2 = true := by simpa using hbb
          obtain ⟨sq, z1, z2, z3⟩ := HX2.out rfl rfl
          have HO := zh (fun x W (h : Ra W x sq) => verdigrisref02.Out_ok x sq W h (by rw [z2, Int.natAbs_natCast]; exact Nat.le_trans (sz_mono zo (iroot_self HPQ.out.2.1)) (Nat.le_trans S1.out zo)) (by rw [z3]; exact Nat.le_trans (sz_mono zo (iroot_self HPQ.out.2.1)) (Nat.le_trans S2.out zo)))
          clear hz hbb
          have hra : Ra wq (.agg #[.bool bRN, .slice pRN nRN eRN, .bool bRD, .slice pRD nRD eRD]) sq := ⟨_, _, _, _, _, _, _, _, rfl, by rw [z2]; exact RN.out, by rw [z3]; exact RD.out⟩
          have HO2 := HO.out _ _ hra
          rw [← z1] at HO2
          have HO3 := zh HO2
          clear HO HO2 hra z1 z2 z3 RN RD HX1 HX2
          go_wp2_with fail
          refine HO3.out.mono ?_
          rintro e w7 ⟨rfl, hb⟩
          rw [res_mk]
          simp only [Fr.v]
          replace X6 := X6.bl hb
          replace HB := zh (Bt HB.out hb)
          clear hb c6 l6 f6 x6 HO3 c9 l9 c11 l11
          obtain ⟨c6, l6, f6⟩ := X6.clf
          have x6 := X6.out
          have hb := HB.out
          go_wp2_with fail
          refine ret_ct rfl rfl boxA Tryz.underlying40 rfl zk ?_
          exact ⟨rfl, belA⟩
        · have e := HX1.out (by simpa using hbb)
          simp only [Prod.mk.injEq] at e
          obtain ⟨e1, rfl⟩ := e
          obtain ⟨rfl, rfl⟩ : yn = ⟨#[]⟩ ∧ yd = ⟨#[]⟩ := by cases e1; exact ⟨rfl, rfl⟩
          have hb := HB.out
          clear e1
          cases b1
          all_goals cases b2
          all_goals first
            | (exact absurd rfl hbb)
            | (go_wp2_with fail
               refine ret_ct rfl rfl boxA Tryz.underlying40 rfl zk ?_
               exact ⟨rfl, belA⟩)
      · have hnr : r < 0 := by
          have := HNEG.out
          rw [← HBR.out] at this
          exact of_decide_eq_true this.symm
        have e := HZ.out
        simp only [hnr, or_true, if_true, Prod.mk.injEq] at e
        obtain ⟨e1, rfl⟩ := e
        obtain ⟨rfl, rfl⟩ : yn = ⟨#[]⟩ ∧ yd = ⟨#[]⟩ := by cases e1; exact ⟨rfl, rfl⟩
        obtain ⟨c6, l6, f6⟩ := X6.clf
        have x6 := X6.out
        have hb := HB.out
        clear hnr
        go_wp2_with fail
        refine ret_ct rfl rfl boxA Tryz.underlying40 rfl zk ?_
        exact ⟨rfl, belA⟩
end Go.Proofs.verdigrisref04
namespace Go.Proofs.verdigrisref01
open Go Go.RowKit Go.SW Go.Num Go.Mem Go.Proofs Go.Dec
def Words (w : World) (v : Value) : Prop := ∃ (a : Option Addr) (n cap : Nat) (U : Nat → Int), v = .slice a n cap ∧ n ≤ 9223372036854775807 ∧ ∀ k, k < n → ∃ b off, a = some ⟨b, off, none⟩ ∧ b < w.heap.size ∧ w.cell? ⟨b, off + k, none⟩ = some (.int .u16 (U k)) ∧ 0 ≤ U k ∧ U k ≤ 65535
theorem Words.later {w w' : World} {v : Value} (h : Words w v) (hb : Below w.heap.size w w') : Words w' v := by
  obtain ⟨a, n, cap, U, rfl, hn, h⟩ := h
  refine ⟨a, n, cap, U, rfl, hn, fun k hk => ?_⟩
  obtain ⟨b, off, rfl, h1, h2, h3⟩ := h k hk
  exact ⟨b, off, rfl, Nat.lt_of_lt_of_le h1 hb.size, (hb.cell (p := ⟨b, off + k, none⟩) h1).trans h2, h3⟩
def thou (U : Nat → Int) : Nat → Int
  | 0 => 0
  | k + 1 => thou U k * 1000 + (U k).tmod 1000
theorem Small_ok (f : Bool) (v : Value) (z : Int) (w : World) (h : Words w v) : ∃ m : Int, (-999999 ≤ m ∧ m ≤ 999999) ∧ ∀ W, Below w.heap.size w W →
    Calls Tryz.prog 59 #[.agg #[.bool f, v, .int .u16 z]] W (fun e w' => e = .returned (.int .i64 m) ∧ Below W.heap.size W w') := by
  have W0 : ∀ z : Int, -1000000000 ≤ z ∧ z ≤ 1000000000 → IntKind.i64.wrap z = z := fun z h => by unfold IntKind.wrap; simp [IntKind.bits, IntKind.signed]; split <;> omega
  obtain ⟨a, n, cap, U, rfl, hn, hread⟩ := h
  have R0 : ∀ k, k < n → 0 ≤ (U k).tmod 1000 ∧ (U k).tmod 1000 ≤ 999 := fun k hk => by
    obtain ⟨_, _, _, _, _, h0, _⟩ := hread k hk
    rw [Int.tmod_eq_emod_of_nonneg h0]
    omega
  have T0 : ∀ k, k ≤ n → k ≤ 2 → 0 ≤ thou U k ∧ thou U k < 1000 ^ k := fun k hk h2 => by
    rcases (by omega : k = 0 ∨ k = 1 ∨ k = 2) with rfl | rfl | rfl
    · simp [thou]
    · have := R0 0 zo
      simp [thou]
      omega
    · have := R0 0 zo
      have := R0 1 zo
      simp [thou]
      omega
  have T1 : ∀ k, k ≤ n → k ≤ 2 → 0 ≤ thou U k ∧ thou U k ≤ 999999 := fun k hk h2 => by
    have := T0 k hk h2
    rcases (by omega : k = 0 ∨ k = 1 ∨ k = 2) with rfl | rfl | rfl <;> omega
  have TM := T1 (min n 2) zo zo
  refine ⟨if f then -thou U (min n 2) else thou U (min n 2), by split <;> omega, fun W hW => ?_⟩
  have H : Hid (∀ k, k < n → ∃ b off, a = some ⟨b, off, none⟩ ∧ b < W.heap.size ∧ W.cell? ⟨b, off + k, none⟩ = some (.int .u16 (U k)) ∧ 0 ≤ U k ∧ U k ≤ 65535) := zh fun k hk => by
    obtain ⟨b, off, rfl, h1, h2, h3⟩ := hread k hk
    exact ⟨b, off, rfl, Nat.lt_of_lt_of_le h1 hW.size, (hW.cell (p := ⟨b, off + k, none⟩) h1).trans h2, h3⟩
  have HW := zh W0
  have HR := zh R0
  have HT := zh T1
  have HS : Hid (∀ k, thou U (k + 1) = thou U k * 1000 + (U k).tmod 1000) := zh fun k => rfl
  have H0 : Hid (thou U 0 = 0) := zh rfl
  obtain ⟨mv, Emv⟩ : ∃ y, Hid ((if f = true then -thou U (min n 2) else thou U (min n 2)) = y) := ⟨_, zh rfl⟩
  rw [Emv.out]
  clear hread W0 R0 T0 T1 TM hW w
  generalize thou U = F at *
  go_enter Tryz.func59, Tryz.ntmps59
  go_wp2_with fail
  go_loopw [3, 4] (fun tv iv wr => ∃ k : Nat, iv = .int .i64 (k : Int) ∧ tv = .int .i64 (F k) ∧ k ≤ n ∧ k ≤ 2 ∧ Below W.heap.size W wr ∧ Box wr W.heap.size #[.bool f, .slice a n cap, .int .u16 z] 44) (fun _ iv _ => 2 - (intOf iv).toNat)
  case atStart => exact ⟨0, rfl, by rw [H0.out], by omega, by omega, belA, boxA⟩
  case round =>
    obtain ⟨k, rfl, rfl, hkn, hk2, hb, hB⟩ := hrel
    have cB := hB.cell
    have lB := hB.lt
    have ht := HT.out k hkn hk2
    by_cases hex : k < n ∧ k < 2
    · obtain ⟨h1, h2⟩ := hex
      obtain ⟨b, off, rfl, lb, cx, u0, u1⟩ := H.out k h1
      have cx' := (hb.cell (p := ⟨b, off + k, none⟩) lb).trans cx
      have g1 : decide ((k : Int) < (n : Int)) = true := by simp; omega
      have g2 : decide ((k : Int) < 2) = true := by simp; omega
      have hr := HR.out k h1
      have HSk := zh (HS.out k)
      obtain ⟨r, Er⟩ : ∃ r, (U k).tmod 1000 = r := ⟨_, rfl⟩
      rw [Er] at hr HSk
      obtain ⟨t, Et⟩ : ∃ t, F k = t := ⟨_, rfl⟩
      rw [Et] at ht HSk ⊢
      have t2 : t ≤ 999999 := ht.2
      have w1 : IntKind.u16.wrap r = r := by unfold IntKind.wrap; simp [IntKind.bits, IntKind.signed]; omega
      have w2 := HW.out r zo
      have w3 := HW.out (t * 1000) zo
      have w4 := HW.out (t * 1000 + r) zo
      clear cx lb
      go_wp2_with fail
      go_roundw
      case rel => exact ⟨k + 1, by go_num, by rw [HSk.out], by omega, by omega, hb, hB⟩
      case measure => exact zM
    · have hkm : k = min n 2 := by omega
      have hw5 := HW.out (-F k) zo
      have HM : Hid (mv = if f = true then -F k else F k) := zh (by rw [← Emv.out, hkm])
      obtain ⟨t, Et⟩ : ∃ t, F k = t := ⟨_, rfl⟩
      rw [Et] at hw5 HM ⊢
      clear ht Et Emv hkm
      rcases (by omega : k = n ∨ (k = 2 ∧ 2 < n)) with rfl | ⟨rfl, h3⟩
      · cases f
        · go_wp2_with fail
          go_ret
          exact ⟨by rw [HM.out]; rfl, hb⟩
        · go_wp2_with fail
          go_ret
          exact ⟨by rw [HM.out]; rfl, hb⟩
      · have g1 : decide ((2 : Int) < (n : Int)) = true := by simp; omega
        cases f
        · go_wp2_with fail
          go_ret
          exact ⟨by rw [HM.out]; rfl, hb⟩
        · go_wp2_with fail
          go_ret
          exact ⟨by rw [HM.out]; rfl, hb⟩
end Go.Proofs.verdigrisref01
namespace Go.Proofs.verdigrisref02
open Go Go.RowKit Go.SW Go.Num Go.Mem Go.Proofs Go.Dec Go.Proofs.verdigrisref01 Go.Fra
theorem short_q {n d : Int} (h1 : -999 ≤ n ∧ n ≤ 999) (h2 : 1 ≤ d ∧ d ≤ 60) : okq ((n : Rat) / (d : Rat)) = true := by
  obtain ⟨l1, l2⟩ := low_le (n := n) (d := d) zo
  have h3 : 2000 < tenTo 600 := by
    unfold tenTo
    have := Nat.pow_le_pow_right (n := 10) zo (show 4 ≤ 600 by omega)
    omega
  unfold okq okn
  rw [Bool.and_eq_true]
  exact ⟨decide_eq_true zo, decide_eq_true zo⟩
theorem Short_sm (f1 f2 : Bool) (v1 v2 : Value) (z1 z2 : Int) (w0 : World) (h1 : Words w0 v1) (h2 : Words w0 v2) : ∃ q : Rat, (okq q = true ∧ q.num.natAbs ≤ 999 ∧ q.den ≤ 60) ∧ ∀ w, Below w0.heap.size w0 w →
    Calls Tryz.prog 20 #[.agg #[.bool f1, v1, .int .u16 z1, .bool f2, v2, .int .u16 z2]] w (fun e w' => e = .returned (Fr.of q).v ∧ Below w.heap.size w w') := by
  have W0 : ∀ z : Int, -1000000000 ≤ z ∧ z ≤ 1000000000 → IntKind.i64.wrap z = z := fun z h => by unfold IntKind.wrap; simp [IntKind.bits, IntKind.signed]; split <;> omega
  obtain ⟨n, hn, A1⟩ := Small_ok f1 v1 z1 w0 h1
  obtain ⟨m, hm, A2⟩ := Small_ok f2 v2 z2 w0 h2
  obtain ⟨a1, n1, c1, U1, rfl, -⟩ := h1
  obtain ⟨a2, n2, c2, U2, rfl, -⟩ := h2
  obtain ⟨t, Et⟩ : ∃ t, n.tmod 1000 = t := ⟨_, rfl⟩
  obtain ⟨r, Er⟩ : ∃ r, (if m < 0 then -m else m).tmod 60 = r := ⟨_, rfl⟩
  have e1 := Int.tmod_lt_of_pos n (show (0 : Int) < 1000 by omega)
  have e2 := Int.lt_tmod_of_pos n (show (0 : Int) < 1000 by omega)
  have e3 := Int.tmod_eq_emod_of_nonneg (b := 60) (show 0 ≤ (if m < 0 then -m else m) by split <;> omega)
  rw [Et] at e1 e2
  rw [Er] at e3
  have r0 : 0 ≤ r ∧ r ≤ 59 := by rw [e3]; omega
  have wt := W0 t zo
  have wr' := W0 r zo
  have wr1 := W0 (1 + r) zo
  have wm := W0 (-m) zo
  have hq := short_q (n := t) (d := 1 + r) zo zo
  have hbd := low_le (n := t) (d := 1 + r) zo
  refine ⟨(t : Rat) / ((1 + r : Int) : Rat), ⟨hq, by omega, by omega⟩, fun w hW => ?_⟩
  clear hbd
  have H1 := zh (fun W (h : Below w.heap.size w W) => A1 W (Bt hW h))
  have H2 := zh (fun W (h : Below w.heap.size w W) => A2 W (Bt hW h))
  have H3 := zh (fun W => Quick_ok t (1 + r) zo zo zo zo zo W)
  obtain ⟨l1, l2⟩ := low_le (n := t) (d := 1 + r) zo
  have H4 := zh (fun x W hx => Out_ok x ((t : Rat) / ((1 + r : Int) : Rat)) W hx (Nat.le_trans (sz_mono zo l1) (Nat.le_trans (sz_i64 zo zo) zo)) (Nat.le_trans (sz_mono zo l2) (Nat.le_trans (sz_i64 zo zo) zo)))
  clear A1 A2 hW l1 l2 W0
  generalize (t : Rat) / ((1 + r : Int) : Rat) = q at *
  have E : wr q = (Fr.of q, 0) := by unfold wr; rw [if_pos hq]
  rw [E] at H4
  obtain ⟨⟨s1, s2⟩, EQ⟩ : ∃ y, Fr.of q = y := ⟨_, rfl⟩
  rw [EQ] at H4 ⊢
  replace H4 : Hid (∀ x W, Ra W x q → Calls Tryz.prog 57 #[x] W (fun e w' => e = .returned (.tuple #[.agg #[.string s1, .string s2], .int .i64 0]) ∧ Below W.heap.size W w')) := H4
  unfold Fr.v
  clear E EQ hq e1 e2 e3 hn hm
  by_cases hm0 : m < 0
  · rw [if_pos hm0] at Er
    go_enter Tryz.func20, Tryz.ntmps20
    go_wp2_with fail
    obtain ⟨wq1, EW, hz, X1, X2⟩ := al2 w #[.bool f1, .slice a1 n1 c1, .int .u16 z1, .bool f2, .slice a2 n2 c2, .int .u16 z2] 46 #[.string ⟨#[]⟩, .string ⟨#[]⟩] 40
    rw [EW]
    have hk2 := Bt (Below.refl _ _) hz
    clear EW hz
    refine (H2.out _ hk2).mono ?_
    rintro e wc3 ⟨rfl, hb3⟩
    replace X1 := X1.bl hb3
    replace X2 := X2.bl hb3
    have hk5 := Bt hk2 hb3
    clear hk2
    clear hb3
    obtain ⟨cX1, lX1, fX1⟩ := X1.clf
    go_wp2_with fail
    clear cX1 lX1 fX1
    refine (H1.out _ hk5).mono ?_
    rintro e wc6 ⟨rfl, hb6⟩
    replace X1 := X1.bl hb6
    replace X2 := X2.bl hb6
    have hk8 := Bt hk5 hb6
    clear hk5
    clear hb6
    go_wp2_with fail
    refine (H3.out _).mono ?_
    rintro e wc9 ⟨vq, rfl, hb9, hq⟩
    replace X1 := X1.bl hb9
    replace X2 := X2.bl hb9
    have hk11 := Bt hk8 hb9
    clear hk8
    have NQ := zh hq
    clear hb9 hq
    go_wp2_with fail
    refine (H4.out _ _ NQ.out).mono ?_
    rintro e wc12 ⟨rfl, hb12⟩
    replace X1 := X1.bl hb12
    replace X2 := X2.bl hb12
    replace NQ := zh (NQ.out.later hb12)
    have hk14 := Bt hk11 hb12
    clear hk11
    clear hb12
    obtain ⟨cX2, lX2, fX2⟩ := X2.clf
    have hres := X2.out
    have cres := hres.cell
    have fres := hres.free
    go_wp2_with fail
    refine ret_c rfl rfl boxA Tryz.underlying40 rfl zk ?_
    exact ⟨rfl, belA⟩
  · rw [if_neg hm0] at Er
    go_enter Tryz.func20, Tryz.ntmps20
    go_wp2_with fail
    obtain ⟨wq1, EW, hz, X1, X2⟩ := al2 w #[.bool f1, .slice a1 n1 c1, .int .u16 z1, .bool f2, .slice a2 n2 c2, .int .u16 z2] 46 #[.string ⟨#[]⟩, .string ⟨#[]⟩] 40
    rw [EW]
    have hk2 := Bt (Below.refl _ _) hz
    clear EW hz
    refine (H2.out _ hk2).mono ?_
    rintro e wc3 ⟨rfl, hb3⟩
    replace X1 := X1.bl hb3
    replace X2 := X2.bl hb3
    have hk5 := Bt hk2 hb3
    clear hk2
    clear hb3
    obtain ⟨cX1, lX1, fX1⟩ := X1.clf
    go_wp2_with fail
    clear cX1 lX1 fX1
    refine (H1.out _ hk5).mono ?_
    rintro e wc6 ⟨rfl, hb6⟩
    replace X1 := X1.bl hb6
    replace X2 := X2.bl hb6
    have hk8 := Bt hk5 hb6
    clear hk5
    clear hb6
    go_wp2_with fail
    refine (H3.out _).mono ?_
    rintro e wc9 ⟨vq, rfl, hb9, hq⟩
    replace X1 := X1.bl hb9
    replace X2 := X2.bl hb9
    have hk11 := Bt hk8 hb9
    clear hk8
    have NQ := zh hq
    clear hb9 hq
    go_wp2_with fail
    refine (H4.out _ _ NQ.out).mono ?_
    rintro e wc12 ⟨rfl, hb12⟩
    replace X1 := X1.bl hb12
    replace X2 := X2.bl hb12
    replace NQ := zh (NQ.out.later hb12)
    have hk14 := Bt hk11 hb12
    clear hk11
    clear hb12
    obtain ⟨cX2, lX2, fX2⟩ := X2.clf
    have hres := X2.out
    have cres := hres.cell
    have fres := hres.free
    go_wp2_with fail
    refine ret_c rfl rfl boxA Tryz.underlying40 rfl zk ?_
    exact ⟨rfl, belA⟩
theorem Short_ok (f1 f2 : Bool) (v1 v2 : Value) (z1 z2 : Int) (w0 : World) (h1 : Words w0 v1) (h2 : Words w0 v2) : ∃ q : Rat, okq q = true ∧ ∀ w, Below w0.heap.size w0 w →
    Calls Tryz.prog 20 #[.agg #[.bool f1, v1, .int .u16 z1, .bool f2, v2, .int .u16 z2]] w (fun e w' => e = .returned (Fr.of q).v ∧ Below w.heap.size w w') := by
  obtain ⟨q, ⟨h, -, -⟩, k⟩ := Short_sm f1 f2 v1 v2 z1 z2 w0 h1 h2
  exact ⟨q, h, k⟩
theorem unit_q {n d : Int} (h1 : 0 ≤ n ∧ n ≤ 65535) (h2 : 1 ≤ d ∧ d ≤ 65535) : okq ((n : Rat) / (d : Rat)) = true := by
  obtain ⟨l1, l2⟩ := low_le (n := n) (d := d) zo
  have h3 : 70000 < tenTo 600 := by
    unfold tenTo
    have := Nat.pow_le_pow_right (n := 10) zo (show 5 ≤ 600 by omega)
    omega
  unfold okq okn
  rw [Bool.and_eq_true]
  exact ⟨decide_eq_true zo, decide_eq_true zo⟩
theorem Unit_ok (f1 f2 : Bool) (v1 v2 : Value) (z1 z2 : Int) (w0 : World) (h1 : Words w0 v1) (h2 : Words w0 v2) : ∃ q : Rat, okq q = true ∧ ∀ w, Below w0.heap.size w0 w →
    Calls Tryz.prog 22 #[.agg #[.bool f1, v1, .int .u16 z1, .bool f2, v2, .int .u16 z2]] w (fun e w' => e = .returned (Fr.of q).v ∧ Below w.heap.size w w') := by
  have W0 : ∀ z : Int, -1000000000 ≤ z ∧ z ≤ 1000000000 → IntKind.i64.wrap z = z := fun z h => by unfold IntKind.wrap; simp [IntKind.bits, IntKind.signed]; split <;> omega
  obtain ⟨n, hn, A1⟩ := Small_ok f1 v1 z1 w0 h1
  obtain ⟨m, hm, A2⟩ := Small_ok f2 v2 z2 w0 h2
  obtain ⟨a1, n1, c1, U1, rfl, -⟩ := h1
  obtain ⟨a2, n2, c2, U2, rfl, -⟩ := h2
  obtain ⟨s, Es⟩ : ∃ s, m.tmod 60 = s := ⟨_, rfl⟩
  have sb1 := Int.tmod_lt_of_pos m (show (0 : Int) < 60 by omega)
  have sb2 := Int.lt_tmod_of_pos m (show (0 : Int) < 60 by omega)
  rw [Es] at sb1 sb2
  by_cases hm0 : m < 0
  · skip
    obtain ⟨r, Er⟩ : ∃ r, (if n < 0 then -n else n).tmod 65536 = r := ⟨_, rfl⟩
    have e3 := Int.tmod_eq_emod_of_nonneg (b := 65536) (show 0 ≤ (if n < 0 then -n else n) by split <;> omega)
    have hs : 65535 = (65535 : Int) ∨ (0 ≤ s ∧ s ≤ 59) := by omega
    have e4 := Int.emod_nonneg (if n < 0 then -n else n) (show (65536 : Int) ≠ 0 by omega)
    have e5 := Int.emod_lt_of_pos (if n < 0 then -n else n) (show (0 : Int) < 65536 by omega)
    rw [← e3, Er] at e4 e5
    have hq := unit_q (n := r) (d := 65535) zo zo
    refine ⟨(r : Rat) / ((65535 : Int) : Rat), hq, fun w hW => ?_⟩
    have H1 := zh (fun W (h : Below w.heap.size w W) => A1 W (Bt hW h))
    have H2 := zh (fun W (h : Below w.heap.size w W) => A2 W (Bt hW h))
    have H3 := zh (fun W => Quick_ok r 65535 zo zo zo zo zo W)
    obtain ⟨l1, l2⟩ := low_le (n := r) (d := 65535) zo
    have H4 := zh (fun x W hx => Out_ok x ((r : Rat) / ((65535 : Int) : Rat)) W hx (Nat.le_trans (sz_mono zo l1) (Nat.le_trans (sz_i64 zo zo) zo)) (Nat.le_trans (sz_mono zo l2) (Nat.le_trans (sz_i64 zo zo) zo)))
    have k0 : (65536 : Int) ≠ 0 := by omega
    have k1 : ¬ (65536 : Int) = 0 := by omega
    have k2 : ((65536 : Int) == 0) = false := by first | (simp; done) | (simp; omega)
    have wn := W0 (-n) zo
    have ws := W0 s zo
    have ws1 := W0 (1 + s) zo
    have ws2 := W0 (1 + s + 1) zo
    have wrr := W0 r zo
    clear A1 A2 hW l1 l2 W0 e3 e4 e5 hs
    generalize (r : Rat) / ((65535 : Int) : Rat) = q at *
    have E : Fra.wr q = (Fr.of q, 0) := by unfold Fra.wr; rw [if_pos hq]
    rw [E] at H4
    obtain ⟨⟨s1, s2⟩, EQ⟩ : ∃ y, Fr.of q = y := ⟨_, rfl⟩
    rw [EQ] at H4 ⊢
    replace H4 : Hid (∀ x W, Ra W x q → Calls Tryz.prog 57 #[x] W (fun e w' => e = .returned (.tuple #[.agg #[.string s1, .string s2], .int .i64 0]) ∧ Below W.heap.size W w')) := H4
    unfold Fr.v
    clear E EQ hq hn sb1 sb2
    by_cases hn0 : n < 0
    · rw [if_pos hn0] at Er
      clear hm
      go_enter Tryz.func22, Tryz.ntmps22
      go_wp2_with fail
      obtain ⟨wq1, EW, hz, X1, X2⟩ := al2 w #[.bool f1, .slice a1 n1 c1, .int .u16 z1, .bool f2, .slice a2 n2 c2, .int .u16 z2] 46 #[.string ⟨#[]⟩, .string ⟨#[]⟩] 40
      rw [EW]
      have hk2 := Bt (Below.refl _ _) hz
      clear EW hz
      obtain ⟨cX1, lX1, fX1⟩ := X1.clf
      refine wp_region_walk [(.pure, 0), (.read, 1), (.pure, 3), (.read, 4), (.ext, 2), (.ext, 5), (.fin, 6), (.fin, 7)] zk zk zR zP ?_
      repeat (first | (refine walk_pure0 rfl rfl fun J h => ?_; go_simp; refine h _ ?_; clear h J) | (refine walk_load rfl rfl rfl rfl fun J h => ?_; go_simp; refine h _ ?_; clear h J; try go_simp))
      refine walk_ext rfl rfl (fun we3 hb3 J hJ => ?_); go_simp
      have hh3 : Below wq1.heap.size wq1 we3 := belA
      clear hb3
      refine (H1.out _ (Bt hk2 hh3)).mono ?_
      rintro e wc4 ⟨rfl, hb4⟩
      refine hJ _ _ hb4 ?_
      clear hJ J
      have hh4 := Bt hh3 hb4
      clear hh3 hb4
      repeat (first | (refine walk_pure0 rfl rfl fun J h => ?_; go_simp; refine h _ ?_; clear h J) | (refine walk_load rfl rfl rfl rfl fun J h => ?_; go_simp; refine h _ ?_; clear h J; try go_simp))
      refine walk_ext rfl rfl (fun we6 hb6 J hJ => ?_); go_simp
      have hh6 : Below wq1.heap.size wq1 we6 := Bt hh4 belA
      clear hb6 hh4
      refine (H2.out _ (Bt hk2 hh6)).mono ?_
      rintro e wc7 ⟨rfl, hb7⟩
      refine hJ _ _ hb7 ?_
      clear hJ J
      have hh7 := Bt hh6 hb7
      clear hh6 hb7
      repeat (first | (refine walk_pure0 rfl rfl fun J h => ?_; go_simp; refine h _ ?_; clear h J) | (refine walk_load rfl rfl rfl rfl fun J h => ?_; go_simp; refine h _ ?_; clear h J; try go_simp))
      refine walk_fin [_, _] rfl (fun wf9 hf9 => ?_)
      have hh9 : Below wq1.heap.size wq1 wf9 := Bt hh7 belA
      clear hf9 hh7
      clear cX1 lX1 fX1
      replace X1 := X1.bl hh9
      replace X2 := X2.bl hh9
      have hk10 := Bt hk2 hh9
      clear hk2
      clear hh9
      go_wp2_with fail
      refine (H3.out _).mono ?_
      rintro e wc11 ⟨vq, rfl, hb11, hq⟩
      clear X1
      replace X2 := X2.bl hb11
      have hk13 := Bt hk10 hb11
      clear hk10
      have NQ := zh hq
      clear hb11 hq
      go_wp2_with fail
      refine (H4.out _ _ NQ.out).mono ?_
      rintro e wc14 ⟨rfl, hb14⟩
      replace X2 := X2.bl hb14
      replace NQ := zh (NQ.out.later hb14)
      have hk16 := Bt hk13 hb14
      clear hk13
      clear hb14
      obtain ⟨cX2, lX2, fX2⟩ := X2.clf
      have hres := X2.out
      have cres := hres.cell
      have fres := hres.free
      go_wp2_with fail
      refine ret_c rfl rfl boxA Tryz.underlying40 rfl zk ?_
      exact ⟨rfl, belA⟩
    · rw [if_neg hn0] at Er
      clear hm
      go_enter Tryz.func22, Tryz.ntmps22
      go_wp2_with fail
      obtain ⟨wq1, EW, hz, X1, X2⟩ := al2 w #[.bool f1, .slice a1 n1 c1, .int .u16 z1, .bool f2, .slice a2 n2 c2, .int .u16 z2] 46 #[.string ⟨#[]⟩, .string ⟨#[]⟩] 40
      rw [EW]
      have hk2 := Bt (Below.refl _ _) hz
      clear EW hz
      obtain ⟨cX1, lX1, fX1⟩ := X1.clf
      refine wp_region_walk [(.pure, 0), (.read, 1), (.pure, 3), (.read, 4), (.ext, 2), (.ext, 5), (.fin, 6), (.fin, 7)] zk zk zR zP ?_
      repeat (first | (refine walk_pure0 rfl rfl fun J h => ?_; go_simp; refine h _ ?_; clear h J) | (refine walk_load rfl rfl rfl rfl fun J h => ?_; go_simp; refine h _ ?_; clear h J; try go_simp))
      refine walk_ext rfl rfl (fun we3 hb3 J hJ => ?_); go_simp
      have hh3 : Below wq1.heap.size wq1 we3 := belA
      clear hb3
      refine (H1.out _ (Bt hk2 hh3)).mono ?_
      rintro e wc4 ⟨rfl, hb4⟩
      refine hJ _ _ hb4 ?_
      clear hJ J
      have hh4 := Bt hh3 hb4
      clear hh3 hb4
      repeat (first | (refine walk_pure0 rfl rfl fun J h => ?_; go_simp; refine h _ ?_; clear h J) | (refine walk_load rfl rfl rfl rfl fun J h => ?_; go_simp; refine h _ ?_; clear h J; try go_simp))
      refine walk_ext rfl rfl (fun we6 hb6 J hJ => ?_); go_simp
      have hh6 : Below wq1.heap.size wq1 we6 := Bt hh4 belA
      clear hb6 hh4
      refine (H2.out _ (Bt hk2 hh6)).mono ?_
      rintro e wc7 ⟨rfl, hb7⟩
      refine hJ _ _ hb7 ?_
      clear hJ J
      have hh7 := Bt hh6 hb7
      clear hh6 hb7
      repeat (first | (refine walk_pure0 rfl rfl fun J h => ?_; go_simp; refine h _ ?_; clear h J) | (refine walk_load rfl rfl rfl rfl fun J h => ?_; go_simp; refine h _ ?_; clear h J; try go_simp))
      refine walk_fin [_, _] rfl (fun wf9 hf9 => ?_)
      have hh9 : Below wq1.heap.size wq1 wf9 := Bt hh7 belA
      clear hf9 hh7
      clear cX1 lX1 fX1
      replace X1 := X1.bl hh9
      replace X2 := X2.bl hh9
      have hk10 := Bt hk2 hh9
      clear hk2
      clear hh9
      go_wp2_with fail
      refine (H3.out _).mono ?_
      rintro e wc11 ⟨vq, rfl, hb11, hq⟩
      clear X1
      replace X2 := X2.bl hb11
      have hk13 := Bt hk10 hb11
      clear hk10
      have NQ := zh hq
      clear hb11 hq
      go_wp2_with fail
      refine (H4.out _ _ NQ.out).mono ?_
      rintro e wc14 ⟨rfl, hb14⟩
      replace X2 := X2.bl hb14
      replace NQ := zh (NQ.out.later hb14)
      have hk16 := Bt hk13 hb14
      clear hk13
      clear hb14
      obtain ⟨cX2, lX2, fX2⟩ := X2.clf
      have hres := X2.out
      have cres := hres.cell
      have fres := hres.free
      go_wp2_with fail
      refine ret_c rfl rfl boxA Tryz.underlying40 rfl zk ?_
      exact ⟨rfl, belA⟩
  · have es2 := Int.tmod_eq_emod_of_nonneg (a := m) (b := 60) zo
    obtain ⟨r, Er⟩ : ∃ r, (if n < 0 then -n else n).tmod (1 + s + 1) = r := ⟨_, rfl⟩
    have e3 := Int.tmod_eq_emod_of_nonneg (b := (1 + s + 1)) (show 0 ≤ (if n < 0 then -n else n) by split <;> omega)
    have hs : (1 + s) = (65535 : Int) ∨ (0 ≤ s ∧ s ≤ 59) := by omega
    have e4 := Int.emod_nonneg (if n < 0 then -n else n) (show ((1 + s + 1) : Int) ≠ 0 by omega)
    have e5 := Int.emod_lt_of_pos (if n < 0 then -n else n) (show (0 : Int) < (1 + s + 1) by omega)
    rw [← e3, Er] at e4 e5
    have hq := unit_q (n := r) (d := (1 + s)) zo zo
    refine ⟨(r : Rat) / (((1 + s) : Int) : Rat), hq, fun w hW => ?_⟩
    have H1 := zh (fun W (h : Below w.heap.size w W) => A1 W (Bt hW h))
    have H2 := zh (fun W (h : Below w.heap.size w W) => A2 W (Bt hW h))
    have H3 := zh (fun W => Quick_ok r (1 + s) zo zo zo zo zo W)
    obtain ⟨l1, l2⟩ := low_le (n := r) (d := (1 + s)) zo
    have H4 := zh (fun x W hx => Out_ok x ((r : Rat) / (((1 + s) : Int) : Rat)) W hx (Nat.le_trans (sz_mono zo l1) (Nat.le_trans (sz_i64 zo zo) zo)) (Nat.le_trans (sz_mono zo l2) (Nat.le_trans (sz_i64 zo zo) zo)))
    have k0 : ((1 + s + 1) : Int) ≠ 0 := by omega
    have k1 : ¬ ((1 + s + 1) : Int) = 0 := by omega
    have k2 : (((1 + s + 1) : Int) == 0) = false := by first | (simp; done) | (simp; omega)
    have wn := W0 (-n) zo
    have ws := W0 s zo
    have ws1 := W0 (1 + s) zo
    have ws2 := W0 (1 + s + 1) zo
    have wrr := W0 r zo
    clear A1 A2 hW l1 l2 W0 e3 e4 e5 hs
    generalize (r : Rat) / (((1 + s) : Int) : Rat) = q at *
    have E : Fra.wr q = (Fr.of q, 0) := by unfold Fra.wr; rw [if_pos hq]
    rw [E] at H4
    obtain ⟨⟨s1, s2⟩, EQ⟩ : ∃ y, Fr.of q = y := ⟨_, rfl⟩
    rw [EQ] at H4 ⊢
    replace H4 : Hid (∀ x W, Ra W x q → Calls Tryz.prog 57 #[x] W (fun e w' => e = .returned (.tuple #[.agg #[.string s1, .string s2], .int .i64 0]) ∧ Below W.heap.size W w')) := H4
    unfold Fr.v
    clear E EQ hq hn sb1 sb2
    by_cases hn0 : n < 0
    · rw [if_pos hn0] at Er
      clear hm
      go_enter Tryz.func22, Tryz.ntmps22
      go_wp2_with fail
      obtain ⟨wq1, EW, hz, X1, X2⟩ := al2 w #[.bool f1, .slice a1 n1 c1, .int .u16 z1, .bool f2, .slice a2 n2 c2, .int .u16 z2] 46 #[.string ⟨#[]⟩, .string ⟨#[]⟩] 40
      rw [EW]
      have hk2 := Bt (Below.refl _ _) hz
      clear EW hz
      obtain ⟨cX1, lX1, fX1⟩ := X1.clf
      refine wp_region_walk [(.pure, 0), (.read, 1), (.pure, 3), (.read, 4), (.ext, 2), (.ext, 5), (.fin, 6), (.fin, 7)] zk zk zR zP ?_
      repeat (first | (refine walk_pure0 rfl rfl fun J h => ?_; go_simp; refine h _ ?_; clear h J) | (refine walk_load rfl rfl rfl rfl fun J h => ?_; go_simp; refine h _ ?_; clear h J; try go_simp))
      refine walk_ext rfl rfl (fun we3 hb3 J hJ => ?_); go_simp
      have hh3 : Below wq1.heap.size wq1 we3 := belA
      clear hb3
      refine (H1.out _ (Bt hk2 hh3)).mono ?_
      rintro e wc4 ⟨rfl, hb4⟩
      refine hJ _ _ hb4 ?_
      clear hJ J
      have hh4 := Bt hh3 hb4
      clear hh3 hb4
      repeat (first | (refine walk_pure0 rfl rfl fun J h => ?_; go_simp; refine h _ ?_; clear h J) | (refine walk_load rfl rfl rfl rfl fun J h => ?_; go_simp; refine h _ ?_; clear h J; try go_simp))
      refine walk_ext rfl rfl (fun we6 hb6 J hJ => ?_); go_simp
      have hh6 : Below wq1.heap.size wq1 we6 := Bt hh4 belA
      clear hb6 hh4
      refine (H2.out _ (Bt hk2 hh6)).mono ?_
      rintro e wc7 ⟨rfl, hb7⟩
      refine hJ _ _ hb7 ?_
      clear hJ J
      have hh7 := Bt hh6 hb7
      clear hh6 hb7
      repeat (first | (refine walk_pure0 rfl rfl fun J h => ?_; go_simp; refine h _ ?_; clear h J) | (refine walk_load rfl rfl rfl rfl fun J h => ?_; go_simp; refine h _ ?_; clear h J; try go_simp))
      refine walk_fin [_, _] rfl (fun wf9 hf9 => ?_)
      have hh9 : Below wq1.heap.size wq1 wf9 := Bt hh7 belA
      clear hf9 hh7
      clear cX1 lX1 fX1
      replace X1 := X1.bl hh9
      replace X2 := X2.bl hh9
      have hk10 := Bt hk2 hh9
      clear hk2
      clear hh9
      go_wp2_with fail
      refine (H3.out _).mono ?_
      rintro e wc11 ⟨vq, rfl, hb11, hq⟩
      clear X1
      replace X2 := X2.bl hb11
      have hk13 := Bt hk10 hb11
      clear hk10
      have NQ := zh hq
      clear hb11 hq
      go_wp2_with fail
      refine (H4.out _ _ NQ.out).mono ?_
      rintro e wc14 ⟨rfl, hb14⟩
      replace X2 := X2.bl hb14
      replace NQ := zh (NQ.out.later hb14)
      have hk16 := Bt hk13 hb14
      clear hk13
      clear hb14
      obtain ⟨cX2, lX2, fX2⟩ := X2.clf
      have hres := X2.out
      have cres := hres.cell
      have fres := hres.free
      go_wp2_with fail
      refine ret_c rfl rfl boxA Tryz.underlying40 rfl zk ?_
      exact ⟨rfl, belA⟩
    · rw [if_neg hn0] at Er
      clear hm
      go_enter Tryz.func22, Tryz.ntmps22
      go_wp2_with fail
      obtain ⟨wq1, EW, hz, X1, X2⟩ := al2 w #[.bool f1, .slice a1 n1 c1, .int .u16 z1, .bool f2, .slice a2 n2 c2, .int .u16 z2] 46 #[.string ⟨#[]⟩, .string ⟨#[]⟩] 40
      rw [EW]
      have hk2 := Bt (Below.refl _ _) hz
      clear EW hz
      obtain ⟨cX1, lX1, fX1⟩ := X1.clf
      refine wp_region_walk [(.pure, 0), (.read, 1), (.pure, 3), (.read, 4), (.ext, 2), (.ext, 5), (.fin, 6), (.fin, 7)] zk zk zR zP ?_
      repeat (first | (refine walk_pure0 rfl rfl fun J h => ?_; go_simp; refine h _ ?_; clear h J) | (refine walk_load rfl rfl rfl rfl fun J h => ?_; go_simp; refine h _ ?_; clear h J; try go_simp))
      refine walk_ext rfl rfl (fun we3 hb3 J hJ => ?_); go_simp
      have hh3 : Below wq1.heap.size wq1 we3 := belA
      clear hb3
      refine (H1.out _ (Bt hk2 hh3)).mono ?_
      rintro e wc4 ⟨rfl, hb4⟩
      refine hJ _ _ hb4 ?_
      clear hJ J
      have hh4 := Bt hh3 hb4
      clear hh3 hb4
      repeat (first | (refine walk_pure0 rfl rfl fun J h => ?_; go_simp; refine h _ ?_; clear h J) | (refine walk_load rfl rfl rfl rfl fun J h => ?_; go_simp; refine h _ ?_; clear h J; try go_simp))
      refine walk_ext rfl rfl (fun we6 hb6 J hJ => ?_); go_simp
      have hh6 : Below wq1.heap.size wq1 we6 := Bt hh4 belA
      clear hb6 hh4
      refine (H2.out _ (Bt hk2 hh6)).mono ?_
      rintro e wc7 ⟨rfl, hb7⟩
      refine hJ _ _ hb7 ?_
      clear hJ J
      have hh7 := Bt hh6 hb7
      clear hh6 hb7
      repeat (first | (refine walk_pure0 rfl rfl fun J h => ?_; go_simp; refine h _ ?_; clear h J) | (refine walk_load rfl rfl rfl rfl fun J h => ?_; go_simp; refine h _ ?_; clear h J; try go_simp))
      refine walk_fin [_, _] rfl (fun wf9 hf9 => ?_)
      have hh9 : Below wq1.heap.size wq1 wf9 := Bt hh7 belA
      clear hf9 hh7
      clear cX1 lX1 fX1
      replace X1 := X1.bl hh9
      replace X2 := X2.bl hh9
      have hk10 := Bt hk2 hh9
      clear hk2
      clear hh9
      go_wp2_with fail
      refine (H3.out _).mono ?_
      rintro e wc11 ⟨vq, rfl, hb11, hq⟩
      clear X1
      replace X2 := X2.bl hb11
      have hk13 := Bt hk10 hb11
      clear hk10
      have NQ := zh hq
      clear hb11 hq
      go_wp2_with fail
      refine (H4.out _ _ NQ.out).mono ?_
      rintro e wc14 ⟨rfl, hb14⟩
      replace X2 := X2.bl hb14
      replace NQ := zh (NQ.out.later hb14)
      have hk16 := Bt hk13 hb14
      clear hk13
      clear hb14
      obtain ⟨cX2, lX2, fX2⟩ := X2.clf
      have hres := X2.out
      have cres := hres.cell
      have fres := hres.free
      go_wp2_with fail
      refine ret_c rfl rfl boxA Tryz.underlying40 rfl zk ?_
      exact ⟨rfl, belA⟩
theorem fits_of {q : Rat} (h : okq q = true) : Fits (Fr.of q) := by
  unfold okq at h
  rw [Bool.and_eq_true] at h
  have h1 := okn_len.1 h.1
  have h2 := okn_len.1 h.2
  have h3 := itoa_len q.num
  have h4 := itoa_len (q.den : Int)
  rw [Int.natAbs_natCast] at h4
  have h5 : (Lib.itoa q.num).length ≤ 601 := by rw [h3]; split <;> omega
  have h6 : (Lib.itoa (q.den : Int)).length ≤ 601 := by rw [h4]; split <;> omega
  exact ⟨by show (Lib.itoa q.num).length ≤ _; omega, by show (Lib.itoa (q.den : Int)).length ≤ _; omega⟩
theorem Pow_ok (q : Rat) (n : Nat) (hq : okq q = true) (hn : n ≤ 40) (w : World) :
    Calls Tryz.prog 19 #[(Fr.of q).v, .int .i64 n] w (fun e w' => e = .returned (Fr.res (wr (q ^ n))) ∧ Below w.heap.size w w') := by
  have hrd := rd_of hq
  obtain ⟨⟨s, t⟩, EQ⟩ : ∃ y, Fr.of q = y := ⟨_, rfl⟩
  rw [EQ] at hrd ⊢
  have hfit : Fits ⟨s, t⟩ := by
    rw [← EQ]
    exact fits_of hq
  have HR := zh (fun W => rightF (a := ⟨s, t⟩) (b := true) (by rw [hrd]; rfl) hfit W)
  have HI := zh (fun W => In_ok s t q W hrd)
  obtain ⟨k1, k2⟩ : okn q.num.natAbs = true ∧ okn q.den = true := by
    unfold okq at hq
    rwa [Bool.and_eq_true] at hq
  have T1 : sz 10000 q.num.natAbs ≤ 201 := by have := sz4_of (okn_sz k1); omega
  have T2 : sz 10000 q.den ≤ 201 := by have := sz4_of (okn_sz k2); omega
  have m1 := Nat.mul_le_mul T1 hn
  have m2 := Nat.mul_le_mul T2 hn
  have HP := zh (fun x W hx => Raised_ok x q n W hx zo zo zo zo zo)
  have HO := zh (fun x W hx => Out_ok x (q ^ n) W hx (by rw [Rat.num_pow, Int.natAbs_pow]; have := sz_pow q.num.natAbs n; omega) (by rw [Rat.den_pow]; have := sz_pow q.den n; omega))
  obtain ⟨⟨⟨r1, r2⟩, re⟩, EW⟩ : ∃ y, wr (q ^ n) = y := ⟨_, rfl⟩
  rw [EW] at HO ⊢
  replace HO : Hid (∀ x W, Ra W x (q ^ n) → Calls Tryz.prog 57 #[x] W (fun e w' => e = .returned (.tuple #[.agg #[.string r1, .string r2], .int .i64 re]) ∧ Below W.heap.size W w')) := HO
  rw [res_mk]
  unfold Fr.v at *
  simp only at HR ⊢
  clear hrd EQ EW hfit k1 k2 T1 T2 m1 m2 hq
  have hn1 : ¬ (n : Int) < 0 := by omega
  have hn2 : ¬ (40 : Int) < (n : Int) := by omega
  go_enter Tryz.func19, Tryz.ntmps19
  go_wp2_with fail
  obtain ⟨wx, EW, hz, X2, X4⟩ := al2 w #[.string s, .string t] 40 #[.string ⟨#[]⟩, .string ⟨#[]⟩] 40
  rw [EW]
  clear EW
  refine (HR.out _).mono ?_
  rintro e w1 ⟨rfl, hb⟩
  replace X2 := X2.bl hb
  replace X4 := X4.bl hb
  have HB := zh (Bt hz hb)
  clear hz hb HR
  obtain ⟨c2, l2⟩ := X2.cl
  go_wp2_with fail
  refine (HI.out _).mono ?_
  rintro e w2 ⟨v, rfl, hb, hv⟩
  obtain ⟨bR, pR, nR, eR, dR, qR, mR, fR, rfl, -⟩ := id hv; have R := zh hv; clear hv
  replace X4 := X4.bl hb
  replace HB := zh (Bt HB.out hb)
  clear hb HI c2 l2 X2
  go_wp2_with fail
  refine (HP.out _ _ R.out).mono ?_
  rintro e w3 ⟨v, rfl, hb, hv⟩
  obtain ⟨bS, pS, nS, eS, dS, qS, mS, fS, rfl, -⟩ := id hv; have S := zh hv; clear hv
  replace X4 := X4.bl hb
  replace HB := zh (Bt HB.out hb)
  clear hb HP R
  go_wp2_with fail
  refine (HO.out _ _ S.out).mono ?_
  rintro e w4 ⟨rfl, hb⟩
  replace X4 := X4.bl hb
  replace HB := zh (Bt HB.out hb)
  clear hb HO S
  obtain ⟨c4, l4, f4⟩ := X4.clf
  have x4 := X4.out
  have hb := HB.out
  go_wp2_with fail
  refine ret_ct rfl rfl boxA Tryz.underlying40 rfl zk ?_
  exact ⟨rfl, belA⟩
end Go.Proofs.verdigrisref02
namespace Go.Proofs.verdigrislaw04
open Go Go.RowKit Go.SW Go.Num Go.Mem Go.Proofs Go.Dec Go.Fra Go.Proofs.verdigrisref01 Go.Proofs.verdigrisref02
def cut12 (s : ByteArray) : ByteArray := s.extract 0 (min (s.size : Int) 12).toNat
theorem cut12_size (s : ByteArray) : (cut12 s).size ≤ 12 := by
  unfold cut12
  simp
  omega
theorem cut_ok (s t : ByteArray) (w : World) :
    Calls Tryz.prog 21 #[.agg #[.string s, .string t]] w (fun e w' => e = .returned (.agg #[.string (cut12 s), .string (cut12 t)]) ∧ Below w.heap.size w w') := by
  have qs1 : 0 ≤ min (s.size : Int) 12 := by omega
  have qs2 : min (s.size : Int) 12 ≤ s.size := by omega
  have qt1 : 0 ≤ min (t.size : Int) 12 := by omega
  have qt2 : min (t.size : Int) 12 ≤ t.size := by omega
  unfold cut12
  go_enter Tryz.func21, Tryz.ntmps21
  go_wp2_with fail
  obtain ⟨wq1, EW, hz, X1, X2⟩ := al2 w #[.string s, .string t] 40 #[.string ⟨#[]⟩, .string ⟨#[]⟩] 40
  rw [EW]
  have hk2 := Bt (Below.refl _ _) hz
  clear EW hz
  obtain ⟨cX1, lX1, fX1⟩ := X1.clf
  refine wp_region_walk [(.pure, 0), (.read, 1), (.pure, 2), (.read, 3), (.pure, 4), (.pure, 5), (.pure, 6), (.pure, 7), (.read, 8), (.pure, 9), (.read, 10), (.pure, 11), (.pure, 12), (.pure, 13), (.pure, 14), (.fin, 15)] zk zk zR zP ?_
  repeat (first | (refine walk_pure0 rfl rfl fun J h => ?_; go_simp; refine h _ ?_; clear h J) | (refine walk_load rfl rfl rfl rfl fun J h => ?_; go_simp; refine h _ ?_; clear h J; try go_simp))
  refine walk_fin [_] rfl (fun wf3 hf3 => ?_)
  have hh3 : Below wq1.heap.size wq1 wf3 := belA
  clear hf3
  clear cX1 lX1 fX1
  replace X1 := X1.bl hh3
  replace X2 := X2.bl hh3
  have hk4 := Bt hk2 hh3
  clear hk2
  clear hh3
  obtain ⟨cX2, lX2, fX2⟩ := X2.clf
  have hres := X2.out
  have cres := hres.cell
  have fres := hres.free
  go_wp2_with fail
  refine ret_c rfl rfl boxA Tryz.underlying40 rfl zk ?_
  exact ⟨rfl, belA⟩
theorem bothX (x : Fr) (hf : Fits x) (p q : Int) : ∃ (n d : ByteArray) (k : Int), (∀ W, Bld.Pow W → Calls Tryz.prog 23 #[.agg #[.string x.n, .string x.d], .int .i64 p, .int .i64 q] W (fun e w' => e = .returned (.tuple #[.agg #[.string n, .string d], .int .i64 k]) ∧ Below W.heap.size W w')) ∧
    ∀ W, Calls Tryz.prog 24 #[.agg #[.string x.n, .string x.d], .int .i64 p, .int .i64 q] W (fun e w' => e = .returned (.tuple #[.agg #[.string n, .string d], .int .i64 k]) ∧ Below W.heap.size W w') :=
  ⟨_, _, _, fun W h1 => power.Exact_ok x p q W h1, fun W => verdigrisref04.Exact_ok x p q hf W⟩
theorem down_nat (q : Int) : ∃ d : Nat, 1 ≤ d ∧ d ≤ 12 ∧ wrap64 (1 + wrap64 ((IntKind.u64.wrap q).tmod 12)) = (d : Int) := by
  have h0 : 0 ≤ IntKind.u64.wrap q := by
    unfold IntKind.wrap
    simp [IntKind.bits, IntKind.signed]
    omega
  have h1 := Int.tmod_eq_emod_of_nonneg (b := 12) h0
  have h2 : wrap64 ((IntKind.u64.wrap q).tmod 12) = (IntKind.u64.wrap q).tmod 12 := by
    unfold wrap64
    omega
  have h3 : wrap64 (1 + (IntKind.u64.wrap q).tmod 12) = 1 + (IntKind.u64.wrap q).tmod 12 := by
    unfold wrap64
    omega
  refine ⟨(1 + (IntKind.u64.wrap q).tmod 12).toNat, by omega, by omega, ?_⟩
  rw [h2, h3]
  omega
theorem PowerExacts_ok (s t : ByteArray) (f1 f2 : Bool) (v1 v2 : Value) (z1 z2 p q : Int) (w : World) (h1 : Words w v1) (h2 : Words w v2) (ht : Bld.Pow w) (he : whole.Er w) :
    Calls Tryz.prog 4 #[.agg #[.string s, .string t], .agg #[.bool f1, v1, .int .u16 z1, .bool f2, v2, .int .u16 z2], .int .i64 p, .int .i64 q] w (fun e w' => e = .returned (.bool true) ∧ Below w.heap.size w w') := by
  obtain ⟨q1, ok1, S1⟩ := verdigrisref02.Short_ok f1 f2 v1 v2 z1 z2 w h1 h2
  obtain ⟨q2, ok2, S2⟩ := verdigrisref02.Unit_ok f1 f2 v1 v2 z1 z2 w h1 h2
  obtain ⟨d, d1, d12, hd⟩ := down_nat q
  obtain ⟨pa1, n1, c1, U1, rfl, -⟩ := h1
  obtain ⟨pa2, n2, c2, U2, rfl, -⟩ := h2
  have P1 := zh (fun W => verdigrisref02.Pow_ok q1 d ok1 zo W)
  obtain ⟨⟨x3, e3⟩, EX⟩ : ∃ y, wr (q1 ^ d) = y := ⟨_, rfl⟩
  have F3 : Hid (Fits x3) := zh (by
    unfold wr at EX
    split at EX
    · cases EX; exact fits_of (by assumption)
    · cases EX; exact ⟨by decide, by decide⟩)
  rw [EX] at P1
  have F1 := zh (fits_of ok1)
  have F2 := zh (fits_of ok2)
  generalize Fr.of q1 = y1 at *
  generalize Fr.of q2 = y2 at *
  have F0 : Hid (Fits ⟨cut12 s, cut12 t⟩) := zh ⟨Nat.le_trans (cut12_size s) zd, Nat.le_trans (cut12_size t) zd⟩
  have C0 := zh (fun W => cut_ok s t W)
  generalize cut12 s = s0 at *
  generalize cut12 t = t0 at *
  have HP := zh ht
  have HE := zh he
  have HW := zh (fun W h1 h2 => works_ok W h1 h2)
  replace S1 := zh S1
  replace S2 := zh S2
  have HD := zh hd
  obtain ⟨y1n, y1d⟩ := y1
  obtain ⟨y2n, y2d⟩ := y2
  obtain ⟨x3n, x3d⟩ := x3
  rw [res_mk] at P1
  simp only [Fr.v] at S1 S2 P1
  clear ht he hd EX ok1 ok2
  go_enter Tryz.func4, Tryz.ntmps4
  go_wp2_with fail
  obtain ⟨wx, EW, hz, X4, X5⟩ := al2 w #[.string s, .string t] 40 #[.bool f1, .slice pa1 n1 c1, .int .u16 z1, .bool f2, .slice pa2 n2 c2, .int .u16 z2] 46
  rw [EW]
  clear EW
  refine (HW.out _ (HP.out.later hz) (HE.out.later hz)).mono ?_
  rintro e w1 ⟨rfl, hb⟩
  replace X4 := X4.bl hb
  replace X5 := X5.bl hb
  have HB := zh (Bt hz hb)
  clear hb hz HW
  obtain ⟨c5, l5⟩ := X5.cl
  go_wp2_with fail
  refine (S1.out _ HB.out).mono ?_
  rintro e w2 ⟨rfl, hb⟩
  replace X4 := X4.bl hb
  replace X5 := X5.bl hb
  replace HB := zh (Bt HB.out hb)
  clear hb c5 l5
  go_wp2_with fail
  rw [HD.out]
  refine (P1.out _).mono ?_
  rintro e w3 ⟨rfl, hb⟩
  replace X4 := X4.bl hb
  replace X5 := X5.bl hb
  replace HB := zh (Bt HB.out hb)
  clear hb P1
  obtain ⟨wy, EW, hz, X10⟩ := al1 w3 #[.string x3n, .string x3d] 40
  replace X4 := X4.bl hz
  replace X5 := X5.bl hz
  replace HB := zh (Bt HB.out hz)
  clear hz
  obtain ⟨g, eg⟩ : ∃ g, w3.heap.size = g := ⟨_, rfl⟩
  rw [eg] at X10
  obtain ⟨c4, l4⟩ := X4.cl
  obtain ⟨c5, l5⟩ := X5.cl
  obtain ⟨c10, l10⟩ := X10.cl
  go_wp2_with fail
  (try rw [EW])
  clear EW c4 l4 c5 l5 c10 l10 eg
  obtain ⟨c4, l4⟩ := X4.cl
  obtain ⟨c5, l5⟩ := X5.cl
  obtain ⟨c10, l10⟩ := X10.cl
  refine wp_region_walk [(.read, 0), (.read, 2), (.read, 4), (.read, 6), (.pure, 8), (.ext, 1), (.ext, 3), (.ext, 5), (.pure, 7)] zk zk zR zP ?_
  refine Wk.out ?_
  repeat (first | (apply wk_skip; (rfl); (rfl); (rfl); (intro J hJ; go_simp; (with_reducible refine hJ _ ?_); clear hJ J)) | (apply wk_len; (rfl); (rfl); (rfl); (rfl); (exact zk); (intro J hJ; go_simp; (with_reducible refine hJ _ ?_); clear hJ J)) | (apply wk_pure; (rfl); (rfl); (intro J hJ; go_simp; (with_reducible refine hJ _ ?_); clear hJ J)) | (apply wk_load; (rfl); (rfl); (rfl); (rfl); (intro J hJ; go_simp; (with_reducible refine hJ _ ?_); clear hJ J; try go_simp)))
  refine wk_ext rfl rfl (fun wa1 ha1 J hJ => ?_)
  have hs1 : Below wy.heap.size wy wa1 := (by first | exact ha1 | exact belA)
  have hx1 : Below wy.heap.size wy wa1 := hs1
  go_simp
  refine (C0.out wa1).mono ?_
  rintro e wb1 ⟨rfl, hb1⟩
  refine hJ _ _ hb1 ?_
  have hy1 := Bt hx1 hb1
  skip
  clear hJ J ha1 hb1 hs1 hx1
  replace c5 := (X5.bl hy1).cl.1
  replace c10 := (X10.bl hy1).cl.1
  repeat (first | (apply wk_skip; (rfl); (rfl); (rfl); (intro J hJ; go_simp; (with_reducible refine hJ _ ?_); clear hJ J)) | (apply wk_len; (rfl); (rfl); (rfl); (rfl); (exact zk); (intro J hJ; go_simp; (with_reducible refine hJ _ ?_); clear hJ J)) | (apply wk_pure; (rfl); (rfl); (intro J hJ; go_simp; (with_reducible refine hJ _ ?_); clear hJ J)) | (apply wk_load; (rfl); (rfl); (rfl); (rfl); (intro J hJ; go_simp; (with_reducible refine hJ _ ?_); clear hJ J; try go_simp)))
  refine wk_ext rfl rfl (fun wa2 ha2 J hJ => ?_)
  have hs2 : Below wb1.heap.size wb1 wa2 := (by first | exact ha2 | exact belA)
  have hx2 : Below wy.heap.size wy wa2 := Bt hy1 hs2
  go_simp
  refine (S1.out wa2 (Bt HB.out hx2)).mono ?_
  rintro e wb2 ⟨rfl, hb2⟩
  refine hJ _ _ hb2 ?_
  have hy2 := Bt hx2 hb2
  skip
  clear hJ J ha2 hb2 hs2 hx2 hy1
  replace c5 := (X5.bl hy2).cl.1
  replace c10 := (X10.bl hy2).cl.1
  repeat (first | (apply wk_skip; (rfl); (rfl); (rfl); (intro J hJ; go_simp; (with_reducible refine hJ _ ?_); clear hJ J)) | (apply wk_len; (rfl); (rfl); (rfl); (rfl); (exact zk); (intro J hJ; go_simp; (with_reducible refine hJ _ ?_); clear hJ J)) | (apply wk_pure; (rfl); (rfl); (intro J hJ; go_simp; (with_reducible refine hJ _ ?_); clear hJ J)) | (apply wk_load; (rfl); (rfl); (rfl); (rfl); (intro J hJ; go_simp; (with_reducible refine hJ _ ?_); clear hJ J; try go_simp)))
  refine wk_ext rfl rfl (fun wa3 ha3 J hJ => ?_)
  have hs3 : Below wb2.heap.size wb2 wa3 := (by first | exact ha3 | exact belA)
  have hx3 : Below wy.heap.size wy wa3 := Bt hy2 hs3
  go_simp
  refine (S2.out wa3 (Bt HB.out hx3)).mono ?_
  rintro e wb3 ⟨rfl, hb3⟩
  refine hJ _ _ hb3 ?_
  have hy3 := Bt hx3 hb3
  skip
  clear hJ J ha3 hb3 hs3 hx3 hy2
  replace c10 := (X10.bl hy3).cl.1
  repeat (first | (apply wk_skip; (rfl); (rfl); (rfl); (intro J hJ; go_simp; (with_reducible refine hJ _ ?_); clear hJ J)) | (apply wk_len; (rfl); (rfl); (rfl); (rfl); (exact zk); (intro J hJ; go_simp; (with_reducible refine hJ _ ?_); clear hJ J)) | (apply wk_pure; (rfl); (rfl); (intro J hJ; go_simp; (with_reducible refine hJ _ ?_); clear hJ J)) | (apply wk_load; (rfl); (rfl); (rfl); (rfl); (intro J hJ; go_simp; (with_reducible refine hJ _ ?_); clear hJ J; try go_simp)))
  refine wk_nil fun wf hbf => ?_
  replace HB := zh (Bt (Bt HB.out hy3) hbf)
  clear X4 X5 X10 c4 l4 c5 l5 c10 l10 hy3 hbf C0 S1 S2
  go_wp2_with fail
  go_loopw [42] (fun iv wr => ∃ k : Nat, k ≤ 4 ∧ iv = .int .i64 (k : Int) ∧ Hid (Below w.heap.size w wr)) (fun iv _ => 4 - (intOf iv).toNat)
  case atStart => exact ⟨0, by omega, rfl, HB⟩
  case round =>
    clear HB
    obtain ⟨k, hk, rfl, HB⟩ := hrel
    rcases Nat.lt_or_ge k 4 with hlt | hge
    · obtain ⟨x, fx, hix⟩ : ∃ x : Fr, Fits x ∧ ∀ W : World, (Instr.index 51 (.agg #[.string s0, .string t0, .string y1n, .string y1d, .string y2n, .string y2d, .string x3n, .string x3d]) (.int .i64 (k : Int))).run Tryz.prog W = .ok (.agg #[.string x.n, .string x.d]) W := by
        have : k = 0 ∨ k = 1 ∨ k = 2 ∨ k = 3 := by omega
        rcases this with rfl | rfl | rfl | rfl
        · exact ⟨⟨s0, t0⟩, F0.out, fun W => by kernel_rfl⟩
        · exact ⟨⟨y1n, y1d⟩, F1.out, fun W => by kernel_rfl⟩
        · exact ⟨⟨y2n, y2d⟩, F2.out, fun W => by kernel_rfl⟩
        · exact ⟨⟨x3n, x3d⟩, F3.out, fun W => by kernel_rfl⟩
      have FX := zh fx
      clear fx
      have hB := zh (fun a b => bothX x FX.out a b)
      obtain ⟨xn, xd⟩ := x
      simp only at hix hB
      have hk4 : (k : Int) < 4 := by omega
      go_wp2_with fail
      obtain ⟨wy, EW, hz, X12⟩ := al1 wr #[.string xn, .string xd] 40
      rw [EW]
      clear EW hix hk4
      replace HB := zh (Bt HB.out hz)
      clear hz
      obtain ⟨g, eg⟩ : ∃ g, wr.heap.size = g := ⟨_, rfl⟩
      rw [eg] at X12 ⊢
      clear eg
      generalize wrap64 (1 + wrap64 ((IntKind.u64.wrap p).tmod 36)) = u36
      generalize wrap64 (1 + wrap64 ((IntKind.u64.wrap p).tmod 4)) = u4
      obtain ⟨kk, ekk⟩ : ∃ y : Int, (k : Int) = y := ⟨_, rfl⟩
      rw [ekk]
      have HK := zh ekk
      clear ekk
      go_loopw [64] (fun jv wq => ∃ j : Nat, j ≤ 3 ∧ jv = .int .i64 (j : Int) ∧ Hid (Box wq g #[.string xn, .string xd] 40) ∧ Hid (Below w.heap.size w wq)) (fun jv _ => 3 - (intOf jv).toNat)
      case atStart => exact ⟨0, by omega, rfl, X12, HB⟩
      case round =>
        clear HB X12
        obtain ⟨j, hj, rfl, X, HB⟩ := hrel
        rcases Nat.lt_or_ge j 3 with hlt2 | hge2
        · obtain ⟨a, b, hix⟩ : ∃ a b : Int, ∀ W : World, (Instr.index 52 (.agg #[.int .i64 p, .int .i64 q, .int .i64 u36, .int .i64 (d : Int), .int .i64 u4, .int .i64 (d : Int)]) (.int .i64 (j : Int))).run Tryz.prog W = .ok (.agg #[.int .i64 a, .int .i64 b]) W := by
            have : j = 0 ∨ j = 1 ∨ j = 2 := by omega
            rcases this with rfl | rfl | rfl
            · exact ⟨p, q, fun W => by kernel_rfl⟩
            · exact ⟨u36, d, fun W => by kernel_rfl⟩
            · exact ⟨u4, d, fun W => by kernel_rfl⟩
          have hj2 : (j : Int) < 3 := by omega
          obtain ⟨cX, lX⟩ := X.cl
          by_cases hk0 : kk = 3
          · subst hk0
            skip
            go_wp2_with fail
            obtain ⟨wz, EW, hz, X14⟩ := al1 wr #[.int .i64 (min a 4), .int .i64 b] 31
            rw [EW]
            clear EW hix cX lX
            replace X := X.bl hz
            replace HB := zh (Bt HB.out hz)
            clear hz
            obtain ⟨g2, eg2⟩ : ∃ g, wr.heap.size = g := ⟨_, rfl⟩
            rw [eg2] at X14 ⊢
            clear eg2
            obtain ⟨z1, z2, z3, CA, CR⟩ := hB.out (min a 4) b
            have CR := zh CR
            refine (CA _ (HP.out.later HB.out)).mono ?_
            rintro e w2 ⟨rfl, hb⟩
            replace X := X.bl hb
            replace X14 := X14.bl hb
            replace HB := zh (Bt HB.out hb)
            clear hb CA
            obtain ⟨cX, lX⟩ := X.cl
            obtain ⟨c14, l14⟩ := X14.cl
            go_wp2_with fail
            obtain ⟨wz2, EW, hz, X15⟩ := al1 w2 #[.string z1, .string z2] 40
            rw [EW]
            clear EW cX lX c14 l14 X14
            replace X := X.bl hz
            replace HB := zh (Bt HB.out hz)
            clear hz
            obtain ⟨g3, eg3⟩ : ∃ g, w2.heap.size = g := ⟨_, rfl⟩
            rw [eg3] at X15 ⊢
            clear eg3
            refine (CR.out _).mono ?_
            rintro e w3 ⟨rfl, hb⟩
            replace X := X.bl hb
            replace X15 := X15.bl hb
            replace HB := zh (Bt HB.out hb)
            clear hb CR
            obtain ⟨c15, l15⟩ := X15.cl
            go_wp2_with fail
            have hb := HB.out
            have hx := X.out
            go_roundw
            case rel => exact ⟨j + 1, by omega, by go_num, zh boxA, zh belA⟩
            case measure => exact zM
          · skip
            (have hk1 : (kk == 3) = false := by simp [hk0])
            go_wp2_with fail
            obtain ⟨wz, EW, hz, X14⟩ := al1 wr #[.int .i64 a, .int .i64 b] 31
            rw [EW]
            clear EW hix cX lX
            replace X := X.bl hz
            replace HB := zh (Bt HB.out hz)
            clear hz
            obtain ⟨g2, eg2⟩ : ∃ g, wr.heap.size = g := ⟨_, rfl⟩
            rw [eg2] at X14 ⊢
            clear eg2
            obtain ⟨z1, z2, z3, CA, CR⟩ := hB.out a b
            have CR := zh CR
            refine (CA _ (HP.out.later HB.out)).mono ?_
            rintro e w2 ⟨rfl, hb⟩
            replace X := X.bl hb
            replace X14 := X14.bl hb
            replace HB := zh (Bt HB.out hb)
            clear hb CA
            obtain ⟨cX, lX⟩ := X.cl
            obtain ⟨c14, l14⟩ := X14.cl
            go_wp2_with fail
            obtain ⟨wz2, EW, hz, X15⟩ := al1 w2 #[.string z1, .string z2] 40
            rw [EW]
            clear EW cX lX c14 l14 X14
            replace X := X.bl hz
            replace HB := zh (Bt HB.out hz)
            clear hz
            obtain ⟨g3, eg3⟩ : ∃ g, w2.heap.size = g := ⟨_, rfl⟩
            rw [eg3] at X15 ⊢
            clear eg3
            refine (CR.out _).mono ?_
            rintro e w3 ⟨rfl, hb⟩
            replace X := X.bl hb
            replace X15 := X15.bl hb
            replace HB := zh (Bt HB.out hb)
            clear hb CR
            obtain ⟨c15, l15⟩ := X15.cl
            go_wp2_with fail
            have hb := HB.out
            have hx := X.out
            go_roundw
            case rel => exact ⟨j + 1, by omega, by go_num, zh boxA, zh belA⟩
            case measure => exact zM
        · obtain rfl : j = 3 := by omega
          have hkk1 : 0 ≤ kk := by have := HK.out; omega
          have hkk2 : kk < 4 := by have := HK.out; omega
          go_wp2_with fail
          have hb := HB.out
          go_roundw
          case rel => exact ⟨k + 1, by omega, by have := HK.out; go_num, zh belA⟩
          case measure => have := HK.out; simp [intOf]; omega
    · obtain rfl : k = 4 := by omega
      go_wp2_with fail
      go_ret
      exact ⟨rfl, HB.out⟩
end Go.Proofs.verdigrislaw04
namespace Go.Proofs.YtpoecfpbafpokaaGreatDoor
open Go Go.ChangeShapes Go.WideShapes Go.RowKit Go.Proofs
theorem open_frac {H : Type} {enc : TypeId × Value → H} {W : World} {b0 base : Nat} {sp : Nat → Bool} {held : Bool} {v : Value} {d : DataW H} {p : List MemPlace}
    (hval : Value.okWide Tryz.prog W .any b0 40 v) (h : DataW.Trod enc Tryz.prog W base sp held 40 v d p) :
    ∃ s t, v = .agg #[.string s, .string t] ∧ p = [] ∧ ∀ (W' : World) (base' : Nat) (sp' : Nat → Bool) (held' : Bool), DataW.Trod enc Tryz.prog W' base' sp' held' 40 v d [] := by
  have u0 : Tryz.prog.underlying 38 = some .string := Tryz.underlying38
  have ut := Tryz.underlying40
  have c0 : Tryz.prog.cellsOf 38 = 1 := by kernel_rfl
  have ct : Tryz.prog.cellsOf 40 = 2 := by kernel_rfl
  obtain ⟨cs, rfl, hsz, -⟩ : ∃ cs, v = .agg cs ∧ cs.size = Tryz.prog.cellsOf 40 ∧ Row.okWide Tryz.prog W .any b0 40 cs := by
    simpa [Value.okWide, ut] using hval
  rw [ct] at hsz
  obtain ⟨l⟩ := cs
  obtain ⟨x0, x1, rfl⟩ : ∃ x0 x1, l = [x0, x1] := by
    match l, hsz with
    | [x0, x1], _ => exact ⟨x0, x1, rfl⟩
  obtain ⟨fuel, hf⟩ := h
  obtain ⟨y0, y1, m, hx, hl, hy0, hy1⟩ := trod_struct2 ut hf
  simp only [c0] at hy0 hy1
  obtain ⟨z0, e0, rfl, w0⟩ := DataW.trod_string u0 hy0
  obtain ⟨z1, e1, rfl, w1⟩ := DataW.trod_string u0 hy1
  replace e0 : [x0] = [Value.string z0] := e0
  replace e1 : [x1] = [Value.string z1] := e1
  simp only [List.cons.injEq, and_true] at e0 e1
  subst e0 e1
  simp only [Prod.mk.injEq] at hx
  obtain ⟨rfl, rfl⟩ := hx
  refine ⟨z0, z1, rfl, by simp, fun W' base' sp' held' => ⟨2, ?_⟩⟩
  have := trod_struct2_mk (enc := enc) (w := W') (base := base') (spare := sp') (held := held') (n := 1) (cs := [.string z0, .string z1]) (y0 := (.lit (.string z0.data.toList), [])) (y1 := (.lit (.string z1.data.toList), [])) ut (by simp [ct])
    (by simp [c0, DataW.trod, u0, w0]) (by simp [c0, DataW.trod, u0, w1])
  simp at this
  exact this
end Go.Proofs.YtpoecfpbafpokaaGreatDoor
namespace Go.Proofs.YtpoecfpbafpokaaGreatDoor
open Go Go.ChangeShapes Go.WideShapes Go.RowKit Go.Proofs Go.Proofs.verdigrisref01
theorem u16_wf {n : Int} (h : (Lit.int .u16 n).wf = true) : 0 ≤ n ∧ n ≤ 65535 := by
  simp [Lit.wf, IntKind.min, IntKind.max, IntKind.signed, IntKind.bits] at h
  omega
section
variable {H : Type} {enc : TypeId × Value → H} {P : Program} {w : World} {base : Nat} {spare : Nat → Bool} {held : Bool}
theorem trod_struct3 {t : TypeId} {f0 f1 f2 : Field} {fuel : Nat} {cs : List Value} {x : DataW H × List MemPlace} (ht : P.underlying t = some (.struct #[f0, f1, f2])) (h : DataW.trod enc P w base spare held fuel t cs = some x) :
    ∃ y0 y1 y2 n, cs.length = P.cellsOf t ∧ DataW.trod enc P w base spare held n f0.type ((cs.drop f0.offset).take (P.cellsOf f0.type)) = some y0 ∧
      DataW.trod enc P w base spare held n f1.type ((cs.drop f1.offset).take (P.cellsOf f1.type)) = some y1 ∧ DataW.trod enc P w base spare held n f2.type ((cs.drop f2.offset).take (P.cellsOf f2.type)) = some y2 := by
  obtain ⟨xs, n, _, rfl, hl, hlen, hf⟩ := DataW.trod_struct ht h
  match xs, hlen with
  | [y0, y1, y2], _ => exact ⟨y0, y1, y2, n, hl, by simpa using hf 0 f0 rfl, by simpa using hf 1 f1 rfl, by simpa using hf 2 f2 rfl⟩
theorem cells_at {a : Addr} {n : Nat} {cs : List Value} (h : w.cells? base a n = some cs) : cs.length = n ∧ ∀ i, i < n → w.cell? (a.add i) = cs[i]? := by
  unfold World.cells? at h
  split at h
  · exact ⟨by simpa using mapM_some_length h, fun i hi => mapM_some_get h i i (by simp [hi])⟩
  · cases h
theorem cell_lt {a : Addr} {v : Value} (h : w.cell? a = some v) : a.block < w.heap.size := by
  unfold World.cell? at h
  rcases Nat.lt_or_ge a.block w.heap.size with h1 | h1
  · exact h1
  · rw [Array.getElem?_eq_none h1] at h
    cases h
end
theorem trod_words {H : Type} {enc : TypeId × Value → H} {W : World} {base : Nat} {sp : Nat → Bool} {held : Bool} {fuel : Nat} {cs : List Value} {x : DataW H × List MemPlace} (h : DataW.trod enc Tryz.prog W base sp held fuel 41 cs = some x) :
    ∃ a n cap, cs = [.slice a n cap] ∧ Words W (.slice a n cap) := by
  have ue : Tryz.prog.underlying 42 = some (.int .u16) := Tryz.underlying42
  have ce : Tryz.prog.cellsOf 42 = 1 := by kernel_rfl
  rcases DataW.trod_slice Tryz.underlying41 h with ⟨rfl, -⟩ | ⟨a, len, cap, elems, rest, n, -, rfl, -, -, h1, h2, h3, h4, -⟩
  · exact ⟨none, 0, 0, rfl, none, 0, 0, fun _ => 0, rfl, by omega, fun k hk => by omega⟩
  · unfold maxLen at h2
    have hc : ∀ k, k < len → ∃ u : Int, W.cell? (a.add k) = some (.int .u16 u) ∧ 0 ≤ u ∧ u ≤ 65535 := fun k hk => by
      have e := h4 k hk
      rw [List.getElem?_eq_getElem zo, ce, Nat.mul_one, Option.bind_eq_some_iff] at e
      obtain ⟨cs', k1, k2⟩ := e
      obtain ⟨u, rfl, -, hw⟩ := DataW.trod_int ue k2
      obtain ⟨-, k3⟩ := cells_at k1
      have k4 := k3 0 zo
      rw [show (a.add k).add 0 = a.add k by simp [Addr.add]] at k4
      exact ⟨u, k4, u16_wf hw⟩
    refine ⟨some a, len, cap, rfl, some a, len, cap, fun k => if h : k < len then (hc k h).choose else 0, rfl, by omega, fun k hk => ?_⟩
    obtain ⟨u0, z0, -⟩ := hc 0 zo
    have hs : a.spot = none := World.cell?_spot (by simpa [Addr.add] using z0)
    have hl := cell_lt z0
    have hsp := (hc k hk).choose_spec
    obtain ⟨b, off, sp⟩ := a
    simp only at hs
    subst hs
    have hl' : b < W.heap.size := by rw [Addr.add_lit] at hl; exact hl
    have hx : W.cell? ⟨b, off + k, none⟩ = some (.int .u16 (hc k hk).choose) := by rw [← Addr.add_lit]; exact hsp.1
    simp only [hk, dif_pos]
    exact ⟨b, off, rfl, hl', hx, hsp.2⟩
theorem trod_d1 {H : Type} {enc : TypeId × Value → H} {W : World} {base : Nat} {sp : Nat → Bool} {held : Bool} {fuel : Nat} {cs : List Value} {x : DataW H × List MemPlace} (h : DataW.trod enc Tryz.prog W base sp held fuel 44 cs = some x) :
    ∃ f a n cap z, cs = [.bool f, .slice a n cap, .int .u16 z] ∧ Words W (.slice a n cap) := by
  have u0 : Tryz.prog.underlying 4 = some .bool := Tryz.underlying4
  have u2 : Tryz.prog.underlying 42 = some (.int .u16) := Tryz.underlying42
  have c0 : Tryz.prog.cellsOf 4 = 1 := by kernel_rfl
  have c1 : Tryz.prog.cellsOf 41 = 1 := by kernel_rfl
  have c2 : Tryz.prog.cellsOf 42 = 1 := by kernel_rfl
  have ct : Tryz.prog.cellsOf 44 = 3 := by kernel_rfl
  obtain ⟨y0, y1, y2, m, hl, h0, h1, h2⟩ := trod_struct3 Tryz.underlying44 h
  rw [ct] at hl
  simp only [c0, c1, c2] at h0 h1 h2
  obtain ⟨x0, x1, x2, rfl⟩ : ∃ x0 x1 x2, cs = [x0, x1, x2] := by
    match cs, hl with
    | [x0, x1, x2], _ => exact ⟨x0, x1, x2, rfl⟩
  obtain ⟨f, e0, -⟩ := DataW.trod_bool u0 h0
  obtain ⟨a, n, cap, e1, hw⟩ := trod_words h1
  obtain ⟨z, e2, -⟩ := DataW.trod_int u2 h2
  replace e0 : [x0] = [Value.bool f] := e0
  replace e1 : [x1] = [Value.slice a n cap] := e1
  replace e2 : [x2] = [Value.int .u16 z] := e2
  simp only [List.cons.injEq, and_true] at e0 e1 e2
  subst e0 e1 e2
  exact ⟨f, a, n, cap, z, rfl, hw⟩
theorem trod_d2 {H : Type} {enc : TypeId × Value → H} {W : World} {base : Nat} {sp : Nat → Bool} {held : Bool} {fuel : Nat} {cs : List Value} {x : DataW H × List MemPlace} (h : DataW.trod enc Tryz.prog W base sp held fuel 46 cs = some x) :
    ∃ f1 a1 n1 c1 z1 f2 a2 n2 c2 z2, cs = [.bool f1, .slice a1 n1 c1, .int .u16 z1, .bool f2, .slice a2 n2 c2, .int .u16 z2] ∧ Words W (.slice a1 n1 c1) ∧ Words W (.slice a2 n2 c2) := by
  have c0 : Tryz.prog.cellsOf 44 = 3 := by kernel_rfl
  have ct : Tryz.prog.cellsOf 46 = 6 := by kernel_rfl
  obtain ⟨y0, y1, m, -, hl, h0, h1⟩ := trod_struct2 Tryz.underlying46 h
  rw [ct] at hl
  simp only [c0] at h0 h1
  obtain ⟨x0, x1, x2, x3, x4, x5, rfl⟩ : ∃ x0 x1 x2 x3 x4 x5, cs = [x0, x1, x2, x3, x4, x5] := by
    match cs, hl with
    | [x0, x1, x2, x3, x4, x5], _ => exact ⟨x0, x1, x2, x3, x4, x5, rfl⟩
  obtain ⟨f1, a1, n1, c1, z1, e1, w1⟩ := trod_d1 h0
  obtain ⟨f2, a2, n2, c2, z2, e2, w2⟩ := trod_d1 h1
  replace e1 : [x0, x1, x2] = [.bool f1, .slice a1 n1 c1, .int .u16 z1] := e1
  replace e2 : [x3, x4, x5] = [.bool f2, .slice a2 n2 c2, .int .u16 z2] := e2
  simp only [List.cons.injEq, and_true] at e1 e2
  obtain ⟨rfl, rfl, rfl⟩ := e1
  obtain ⟨rfl, rfl, rfl⟩ := e2
  exact ⟨f1, a1, n1, c1, z1, f2, a2, n2, c2, z2, rfl, w1, w2⟩
theorem opn_d2 {H : Type} {enc : TypeId × Value → H} {W : World} {b0 base : Nat} {sp : Nat → Bool} {held : Bool} {v : Value} {d : DataW H} {p : List MemPlace}
    (hval : Value.okWide Tryz.prog W .any b0 46 v) (h : DataW.Trod enc Tryz.prog W base sp held 46 v d p) :
    ∃ f1 a1 n1 c1 z1 f2 a2 n2 c2 z2, v = .agg #[.bool f1, .slice a1 n1 c1, .int .u16 z1, .bool f2, .slice a2 n2 c2, .int .u16 z2] ∧ Words W (.slice a1 n1 c1) ∧ Words W (.slice a2 n2 c2) := by
  have ut := Tryz.underlying46
  obtain ⟨cs, rfl, hsz, -⟩ : ∃ cs, v = .agg cs ∧ cs.size = Tryz.prog.cellsOf 46 ∧ Row.okWide Tryz.prog W .any b0 46 cs := by
    simpa [Value.okWide, ut] using hval
  obtain ⟨l⟩ := cs
  obtain ⟨fuel, hf⟩ := h
  obtain ⟨f1, a1, n1, c1, z1, f2, a2, n2, c2, z2, e, w1, w2⟩ := trod_d2 hf
  replace e : l = [.bool f1, .slice a1 n1 c1, .int .u16 z1, .bool f2, .slice a2 n2 c2, .int .u16 z2] := e
  subst e
  exact ⟨f1, a1, n1, c1, z1, f2, a2, n2, c2, z2, rfl, w1, w2⟩
end Go.Proofs.YtpoecfpbafpokaaGreatDoor
