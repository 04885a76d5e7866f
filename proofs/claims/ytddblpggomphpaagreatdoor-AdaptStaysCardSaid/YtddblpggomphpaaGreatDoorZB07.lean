/- Lemmas for the proof. No condition. -/
import Derived.Test.YtddblpggomphpaaGreatDoorZB02
import Derived.Test.YtddblpggomphpaaGreatDoorZB03
import Derived.Test.YtddblpggomphpaaGreatDoorZB04
import Derived.Test.YtddblpggomphpaaGreatDoorZB06
import Derived.RangeFuncNested
import Derived.RangeFuncBound
import Derived.RangeFuncCalls
import Derived.RangeFuncFrom
set_option linter.unusedVariables false
set_option linter.unusedSimpArgs false
namespace Go.Proofs.matrix
open Go Go.RowKit Go.SW Go.Num Go.Mem Go.Proofs Go.Dec Go.Fra
set_option maxRecDepth 10000 in
set_option maxHeartbeats 400000 in
theorem checkList_ok (v : Value) (l : List Fr) (T : TypeId) (w : World) (h : Frs w T v l) :
  Calls Tryz.prog 77 #[v] w (fun e w' => e = .returned (.int .i64 (chkL l)) ∧ Below w.heap.size w w') := by
 obtain ⟨a, cap, rfl, hc1, hc2, hread⟩ := h.read
 have H := Lib.hid hread
 clear h hread
 go_enter Tryz.func77, Tryz.ntmps77
 go_wp2_with fail
 go_loopw [7] (fun iv wr => ∃ k : Nat, iv = .int .i64 (k : Int) ∧ k ≤ l.length ∧ Hid (∀ j (h : j < l.length), j < k → (rd l[j]).isSome = true) ∧ Below w.heap.size w wr) (fun iv _ => l.length - (intOf iv).toNat)
 case atStart => exact ⟨0, rfl, by omega, Lib.hid (fun j _ h => by omega), Below.refl _ _⟩
 case round =>
  obtain ⟨k, rfl, hk, HK, hb⟩ := hrel
  rcases Nat.lt_or_ge k l.length with hlt | hge
  ·obtain ⟨b, off, rfl, hbl, hx1, hx2⟩ := H.out k hlt
   have hc1 := (hb.cell (p := ⟨b, off + k * 2, none⟩) hbl).trans hx1
   have hc2 := (hb.cell (p := ⟨b, off + k * 2 + 1, none⟩) hbl).trans hx2
   clear hx1 hx2
   have hck := frac.check_ok l[k]
   generalize hlk : l[k] = lk at *
   obtain ⟨s, t⟩ := lk
   cases hv : (rd ⟨s, t⟩).isSome with
   | true =>
    rw [chk_zero hv] at hck
    have HCK : Hid (∀ w, Calls Tryz.prog 81 #[.agg #[.string s, .string t]] w (fun e w' => e = .returned (.int .i64 0) ∧ Below w.heap.size w w')) := Lib.hid hck
    have HLK := Lib.hid hlk
    have HV := Lib.hid hv
    clear hck hlk hv
    go_wp2_with fail
    refine (HCK.out _).mono ?_
    rintro e v1 ⟨rfl, hc1⟩
    go_wp2_with fail
    go_roundw
    case rel =>
     refine ⟨k + 1, by go_num, by omega, Lib.hid fun j hj hjk => ?_, Bt hb belA⟩
     rcases Nat.lt_or_ge j k with h | h
     ·exact HK.out j hj h
     ·obtain rfl : j = k := by omega
      rw [HLK.out]
      exact HV.out
    case measure => simp [intOf]; omega
   | false =>
    rw [chk_no hv] at hck
    have HCK : Hid (∀ w, Calls Tryz.prog 81 #[.agg #[.string s, .string t]] w (fun e w' => e = .returned (.int .i64 20) ∧ Below w.heap.size w w')) := Lib.hid hck
    have hno : chkL l = 20 := by
     unfold chkL
     rw [if_neg]
     intro h
     have := List.all_eq_true.1 h l[k] (List.getElem_mem _)
     rw [hlk, hv] at this
     cases this
    have HNO := Lib.hid hno
    clear hck hlk hv hno
    go_wp2_with fail
    refine (HCK.out _).mono ?_
    rintro e v1 ⟨rfl, hc1⟩
    go_wp2_with fail
    go_ret
    exact ⟨by rw [HNO.out]; rfl, Bt hb belA⟩
  ·have hyes : chkL l = 0 := by
    unfold chkL
    rw [if_pos]
    rw [List.all_eq_true]
    intro x hx
    obtain ⟨j, hj, rfl⟩ := List.getElem_of_mem hx
    exact HK.out j hj (by omega)
   have HYES := Lib.hid hyes
   clear hyes
   obtain rfl : k = l.length := by omega
   go_wp2_with fail
   go_ret
   exact ⟨by rw [HYES.out]; rfl, hb⟩
end Go.Proofs.matrix
namespace Go.Proofs.matrix
open Go Go.RowKit Go.Shelf Go.SW Go.Num Go.Mem Go.Proofs Go.Dec Go.Fra
attribute [local go_sem] Oper.semAt_some
theorem keeps_of_below {W W' : World} (h : Below W.heap.size W W') : KeepsOthers W W' :=
 ⟨h.size, fun k o hk _ => (h.block k (Array.getElem?_eq_some_iff.1 hk).1).trans hk⟩
theorem box_kept {W W' : World} {row : Option Nat} {b : Nat} {cs : Array Value} {T : TypeId} (h : Box W b cs T) (hg : W.grownBy W' row) (hr : ∀ r, row = some r → ∃ o : Obj, W.heap[r]? = some o ∧ o.isCells = false) : Box W' b cs T := by
 unfold Box at *
 rw [hg.block b (Array.getElem?_eq_some_iff.1 h).1 ?_]
 ·exact h
 ·intro e
  obtain ⟨o, ho, hc⟩ := hr b e.symm
  rw [h] at ho
  cases ho
  cases hc
set_option maxRecDepth 100000 in
set_option maxHeartbeats 2000000 in
theorem check_main (b off cap n : Nat) (m : List (List Fr)) (rs : List Value) (a0 : Option Addr) (n0 cap0 : Nat) (w : World) (hn : rs.length = n) (h1 : 1 ≤ n) (h4 : n ≤ 4) (hm : rs.length = m.length) (hR : Row w 56 (.slice (some ⟨b, off, none⟩) n cap) rs)
  (hc : w.cell? ⟨b, off, none⟩ = some (.slice a0 n0 cap0)) (k1 : 1 ≤ n0) (k4 : n0 ≤ 4)
  (hF : ∀ i (h : i < rs.length) (h' : i < m.length), Frs w 36 rs[i] m[i]) :
  Calls Tryz.prog 50 #[.slice (some ⟨b, off, none⟩) n cap] w fun e w' => e = .returned (.int .i64 (if m.all (fun r => r.length == n0 && chkL r == 0) then 0 else 50)) ∧ Below w.heap.size w w' := by
 have lb : b < w.heap.size := by
  rcases hR.cases with ⟨h, _⟩ | ⟨b', off', cap', arr, h, _, _, h3, _⟩
  ·cases h
  ·simp only [Value.slice.injEq, Option.some.injEq, Addr.mk.injEq, and_true] at h
   rw [h.1.1]; exact h3.lt
 have lb1 : b < w.heap.size + 1 := by omega
 have q1 : decide ((n : Int) < 1) = false := by simp; omega
 have q2 : decide ((4 : Int) < (n : Int)) = false := by simp; omega
 have q3 : decide ((n0 : Int) < 1) = false := by simp; omega
 have q4 : decide ((4 : Int) < (n0 : Int)) = false := by simp; omega
 have h0n : 0 < n := by omega
 have HR := Lib.hid hR
 have HF := Lib.hid hF
 have HM := Lib.hid hm
 have HN := Lib.hid hn
 clear hR hF hm hn
 obtain ⟨z, Ez⟩ : ∃ y : Int, Hid ((if m.all (fun r => r.length == n0 && chkL r == 0) then 0 else 50) = y) := ⟨_, Lib.hid rfl⟩
 rw [Ez.out]
 refine (callsIn_wide (n := 3)).1 ?_
 refine callsIn_of_wp_marks Tryz.func50 rfl trivial ?_ rfl
 simp only [Tryz.ntmps50, List.size_toArray, List.length_cons, List.length_nil, Nat.reduceAdd, Nat.reduceSub, Array.replicate_succ, Array.replicate_zero, List.push_toArray, List.append_toArray, List.nil_append, List.cons_append]
 gi_wp2_with (refine ⟨trivial, ?_⟩; gi_at_call 112; refine (visit_in Fence.wide 2 trivial rfl _ _ _ _).mono ?_; rintro e w' ⟨rfl, rfl⟩)
 have hB0 : Below w.heap.size w (((w.alloc (.cells #[.slice (some ⟨b, off, none⟩) n cap] 44)).alloc (.cells #[.int .i64 0] 45)).alloc (.cells #[.slice (some ⟨b, off, none⟩) n cap] 44)) := belA
 have hbx0 : Box (((w.alloc (.cells #[.slice (some ⟨b, off, none⟩) n cap] 44)).alloc (.cells #[.int .i64 0] 45)).alloc (.cells #[.slice (some ⟨b, off, none⟩) n cap] 44)) w.heap.size #[.slice (some ⟨b, off, none⟩) n cap] 44 := boxA
 have hbx1 : Box (((w.alloc (.cells #[.slice (some ⟨b, off, none⟩) n cap] 44)).alloc (.cells #[.int .i64 0] 45)).alloc (.cells #[.slice (some ⟨b, off, none⟩) n cap] 44)) (w.heap.size + 1) #[.int .i64 0] 45 := boxA
 have hbx2 : Box (((w.alloc (.cells #[.slice (some ⟨b, off, none⟩) n cap] 44)).alloc (.cells #[.int .i64 0] 45)).alloc (.cells #[.slice (some ⟨b, off, none⟩) n cap] 44)) (w.heap.size + 1 + 1) #[.slice (some ⟨b, off, none⟩) n cap] 44 := boxA
 refine wpIn_rangeFunc_ownF (α := Fin rs.length) rfl (by omega) (gf := 164) (lb := #[.pointer (some ⟨w.heap.size + 1 + 1, 0, none⟩)]) rfl trivial (enters_of Tryz.func164 (by kernel_rfl) rfl)
  (visit_stops Fence.wide 2 trivial rfl (by omega) (w.heap.size + 1 + 1) w.heap.size _ rs w _ hbx2.lt hB0.size ((hbx2.cell 0).trans rfl) HR.out (Nat.le_refl _) hB0) belowK_t (belowK_b hB0.size) (Below.refl _ _) (fun _ => rfl)
  (fun pre W => (Hid (∀ x ∈ pre, ((m.getD x.1 []).length == n0 && chkL (m.getD x.1 []) == 0) = true) ∧ Box W w.heap.size #[.slice (some ⟨b, off, none⟩) n cap] 44 ∧ Box W (w.heap.size + 1) #[.int .i64 0] 45) ∧ Below w.heap.size w W)
  (fun c pre W => (c = .ret ∧ Hid (∃ x : Fin rs.length, ((m.getD x.1 []).length == n0 && chkL (m.getD x.1 []) == 0) = false) ∧ Box W (w.heap.size + 1) #[.int .i64 50] 45) ∧ Below w.heap.size w W)
  (OwnFrom.and (Own.from (fun s A B row hs hg hr => ⟨hs.1, box_kept hs.2.1 hg hr, box_kept hs.2.2 hg hr⟩) _) (ownFrom_below (Nat.le_refl _) hB0.size))
  (fun c => OwnFrom.and (Own.from (fun s A B row hs hg hr => ⟨hs.1, hs.2.1, box_kept hs.2.2 hg hr⟩) _) (ownFrom_below (Nat.le_refl _) hB0.size))
  ⟨⟨Lib.hid (by simp), hbx0, hbx1⟩, hB0⟩ ?a1 ?assign ?body ?done ?stop
 case assign =>
  intro l x W K hK
  unfold enc
  gi_wp2
  exact hK
 case body =>
  rintro l pre x W ⟨⟨hp, hb0, hb1⟩, hB⟩ _
  have hxm : x.1 < m.length := HM.out ▸ x.2
  have hgd : m.getD x.1 [] = m[x.1] := by simp [hxm]
  have hfr := HF.out x.1 x.2 hxm
  obtain ⟨a', cap', hre, k5, k6, -⟩ := hfr.read
  have HFR := Lib.hid (hfr.later hB)
  have cm := (hB.cell (p := ⟨b, off, none⟩) lb).trans hc
  have c0 := hb0.cell
  have f1 := hb1.free
  have c1 := hb1.cell
  have e5 : ∀ y, m.getD x.1 [] = y → ((y.length == n0 && chkL y == 0) = ((m.getD x.1 []).length == n0 && chkL (m.getD x.1 []) == 0)) := fun y h => by rw [h]
  have HE5 := Lib.hid (e5 _ hgd)
  clear hfr e5 hgd hc
  generalize rs[x.1] = rx at *
  subst hre
  generalize hmx : m[x.1] = mx at *
  have HMX := Lib.hid hmx
  clear hmx
  by_cases hl : mx.length = n0
  ·have b1 : ((mx.length : Int) != (n0 : Int)) = false := by simp [hl]
   have hch : chkL mx = 0 ∨ chkL mx = 20 := by unfold chkL; split <;> simp
   have HL := Lib.hid hl
   have HCK := Lib.hid (fun W h => checkList_ok (.slice a' mx.length cap') mx 36 W h)
   clear hl
   rcases hch with hch | hch
   ·have HCH := Lib.hid hch
    clear hch
    rw [HCH.out] at HCK
    gi_wp2_with (refine ⟨trivial, ?_⟩; gi_at_call 77; refine (CallsIn.inRound l (callsIn_wide.2 (HCK.out _ HFR.out))).mono ?_; rintro e w1 ⟨rfl, hc1⟩)
    refine ⟨keeps_of_below hc1, hc1.mono hB.size, ⟨⟨Lib.hid fun y hy => ?_, hb0.later hc1, hb1.later hc1⟩, hB.trans (hc1.mono hB.size)⟩⟩
    rcases List.mem_append.1 hy with h | h
    ·exact hp.out y h
    ·rw [List.mem_singleton] at h
     subst h
     rw [← HE5.out, HCH.out, HL.out]
     simp
   ·have HCH := Lib.hid hch
    clear hch
    rw [HCH.out] at HCK
    gi_wp2_with (refine ⟨trivial, ?_⟩; gi_at_call 77; refine (CallsIn.inRound l (callsIn_wide.2 (HCK.out _ HFR.out))).mono ?_; rintro e w1 ⟨rfl, hc1⟩; have hb2 := hb1.later hc1; have c2 := hb2.cell; have f2 := hb2.free)
    refine ⟨(keeps_of_below hc1).trans (KeepsOthers.setCell _ _ _), ⟨⟨rfl, Lib.hid ⟨x, ?_⟩, hb2.set 0 _⟩, (hB.trans (hc1.mono hB.size)).setCell (by simp) _⟩⟩
    rw [← HE5.out, HCH.out, HL.out]
    simp
  ·have b1 : ((mx.length : Int) != (n0 : Int)) = true := by simp; omega
   have HL := Lib.hid hl
   clear hl
   gi_wp2
   refine ⟨trivial, ?_⟩
   gi_wp2
   refine ⟨KeepsOthers.setCell _ _ _, ⟨⟨rfl, Lib.hid ⟨x, ?_⟩, hb1.set 0 _⟩, hB.setCell (by simp) _⟩⟩
   rw [← HE5.out]
   have := HL.out
   simp [this]
 case done =>
  rintro D ys W hD rfl ⟨⟨hp, hb0, hb1⟩, hB⟩ hK
  have c1 := hb1.cell
  have f1 := hb1.free
  have hall : m.all (fun r => r.length == n0 && chkL r == 0) = true := by
   rw [List.all_eq_true]
   intro r hr
   obtain ⟨i, hi, rfl⟩ := List.getElem_of_mem hr
   have h2 : i < rs.length := by rw [HM.out]; exact hi
   have := hp.out ⟨i, h2⟩ (by unfold upto; rw [List.mem_ofFn]; exact ⟨⟨i, h2⟩, rfl⟩)
   simpa [hi] using this
  have hz : z = 0 := by rw [← Ez.out, if_pos hall]
  have HZ := Lib.hid hz
  clear hall hz
  gi_wp2
  have hb2 := hb1.set 0 (.int .i64 0)
  have hK' := (KeepsOthers.setCell W ⟨w.heap.size + 1, 0, none⟩ (.int .i64 0)).same D _ hK rfl
  refine ⟨by simp, .inl ⟨_, _, rfl, run_takeDeferred hK', ?_⟩⟩
  have hb3 := box_kept hb2 (grownBy_putObj' _ D (.deferred none)) (fun r e => by cases e; exact ⟨_, hK', rfl⟩)
  have hc5 := hb3.cell 0
  refine ⟨.int .i64 0, ?_, by rw [HZ.out], (hB.setCell (p := ⟨w.heap.size + 1, 0, none⟩) (by simp) _).trans (belowK_b (w := w) (Nat.le_refl _) _ D _ _ (by simp at hD; omega) hK' rfl rfl)⟩
  simp [results, Tryz.f50, go_sem, hc5]
 case stop =>
  rintro D c pre W hD hpre ⟨⟨rfl, hin, hb1⟩, hB⟩ hK
  have hz : z = 50 := by
   rw [← Ez.out, if_neg]
   intro h
   obtain ⟨x, hx⟩ := hin.out
   have hxm : x.1 < m.length := HM.out ▸ x.2
   have h2 := List.all_eq_true.1 h m[x.1] (List.getElem_mem _)
   have hgd : m.getD x.1 [] = m[x.1] := by simp [hxm]
   rw [hgd, h2] at hx
   cases hx
  have HZ := Lib.hid hz
  clear hz
  gi_wp2
  refine ⟨by simp, .inl ⟨_, _, rfl, run_takeDeferred hK, ?_⟩⟩
  have hb3 := box_kept hb1 (grownBy_putObj' _ D (.deferred none)) (fun r e => by cases e; exact ⟨_, hK, rfl⟩)
  have hc5 := hb3.cell 0
  refine ⟨.int .i64 50, ?_, by rw [HZ.out], hB.trans (belowK_b (w := w) (Nat.le_refl _) W D _ _ (by simp at hD; omega) hK rfl rfl)⟩
  simp [results, Tryz.f50, go_sem, hc5]
end Go.Proofs.matrix
namespace Go.Proofs.matrix
open Go Go.RowKit Go.SW Go.Num Go.Mem Go.Proofs Go.Dec Go.Fra
set_option maxRecDepth 10000 in
theorem check_count (a : Option Addr) (n cap : Nat) (w : World) (h : n < 1 ∨ 4 < n) :
  Calls Tryz.prog 50 #[.slice a n cap] w fun e w' => e = .returned (.int .i64 50) ∧ Below w.heap.size w w' := by
 rcases h with h | h
 ·have q1 : decide ((n : Int) < 1) = true := by simp; omega
  clear h
  go_enter Tryz.func50, Tryz.ntmps50
  go_wp2_with fail
  exact bodyPost_ret (v := .int .i64 50) (by simp [results, Tryz.results50, go_sem]) rfl ⟨rfl, belA⟩
 ·have q1 : decide ((n : Int) < 1) = false := by simp; omega
  have q2 : decide ((4 : Int) < (n : Int)) = true := by simp; omega
  clear h
  go_enter Tryz.func50, Tryz.ntmps50
  go_wp2_with fail
  exact bodyPost_ret (v := .int .i64 50) (by simp [results, Tryz.results50, go_sem]) rfl ⟨rfl, belA⟩
set_option maxRecDepth 10000 in
theorem check_width (b off cap n : Nat) (a0 : Option Addr) (n0 cap0 : Nat) (w : World) (h1 : 1 ≤ n) (h4 : n ≤ 4) (lb : b < w.heap.size)
  (hc : w.cell? ⟨b, off, none⟩ = some (.slice a0 n0 cap0)) (h : n0 < 1 ∨ 4 < n0) :
  Calls Tryz.prog 50 #[.slice (some ⟨b, off, none⟩) n cap] w fun e w' => e = .returned (.int .i64 50) ∧ Below w.heap.size w w' := by
 have q1 : decide ((n : Int) < 1) = false := by simp; omega
 have q2 : decide ((4 : Int) < (n : Int)) = false := by simp; omega
 have lb1 : b < w.heap.size + 1 := by omega
 have h0n : 0 < n := by omega
 rcases h with h | h
 ·have q3 : decide ((n0 : Int) < 1) = true := by simp; omega
  clear h
  go_enter Tryz.func50, Tryz.ntmps50
  go_wp2_with fail
  exact bodyPost_ret (v := .int .i64 50) (by simp [results, Tryz.results50, go_sem]) rfl ⟨rfl, belA⟩
 ·have q3 : decide ((n0 : Int) < 1) = false := by simp; omega
  have q4 : decide ((4 : Int) < (n0 : Int)) = true := by simp; omega
  clear h
  go_enter Tryz.func50, Tryz.ntmps50
  go_wp2_with fail
  exact bodyPost_ret (v := .int .i64 50) (by simp [results, Tryz.results50, go_sem]) rfl ⟨rfl, belA⟩
theorem Check_ok (v : Value) (m : List (List Fr)) (w : World) (h : MatV w v m) :
  Calls Tryz.prog 50 #[v] w fun e w' => e = .returned (.int .i64 (chkM m)) ∧ Below w.heap.size w w' := by
 obtain ⟨rs, hR, hm, hF⟩ := h
 have hR' := hR
 obtain ⟨a, cap, rfl, -⟩ := hR
 by_cases hlen : rs.length < 1 ∨ 4 < rs.length
 ·have e : chkM m = 50 := by
   unfold chkM okM
   rw [← hm, if_neg]
   intro h
   simp only [Bool.and_eq_true, decide_eq_true_eq] at h
   omega
  rw [e]
  exact check_count _ _ _ w hlen
 ·have h1 : 1 ≤ rs.length := by omega
  have h4 : rs.length ≤ 4 := by omega
  have h0 : 0 < m.length := by omega
  rcases hR'.cases with ⟨_, h⟩ | ⟨b, off, cap', arr, hv, k1, k2, k3, k4⟩
  ·rw [h] at h1; simp at h1
  ·have h0r : 0 < rs.length := by omega
   obtain ⟨a0, cap0, e0, -⟩ := (hF 0 h0r h0).read
   have hc : w.cell? ⟨b, off, none⟩ = some (.slice a0 m[0].length cap0) := by
    have := (k3.cell (off + 0)).trans (k4 0 h0r)
    rw [e0] at this
    exact this
   have hhd : m.headD [] = m[0] := by cases m with | nil => simp at h0 | cons x t => rfl
   rw [hv] at hR' ⊢
   by_cases hw : m[0].length < 1 ∨ 4 < m[0].length
   ·have e : chkM m = 50 := by
     unfold chkM okM
     rw [hhd, if_neg]
     intro h
     simp only [Bool.and_eq_true, decide_eq_true_eq] at h
     omega
    rw [e]
    exact check_width b off cap' _ a0 _ cap0 w h1 h4 k3.lt hc hw
   ·have e : chkM m = if m.all (fun r => r.length == m[0].length && chkL r == 0) then 0 else 50 := by
     unfold chkM okM
     rw [hhd]
     have e1 : decide (1 ≤ m.length) = true := by simp; omega
     have e2 : decide (m.length ≤ 4) = true := by simp; omega
     have e3 : decide (1 ≤ m[0].length) = true := by simp; omega
     have e4 : decide (m[0].length ≤ 4) = true := by simp; omega
     rw [e1, e2, e3, e4]
     simp only [Bool.true_and]
    rw [e]
    exact check_main b off cap' rs.length m rs a0 m[0].length cap0 w rfl h1 h4 hm hR' hc (by omega) (by omega) hF
end Go.Proofs.matrix
namespace Go.Proofs.matrix
open Go Go.RowKit Go.SW Go.Num Go.Mem Go.Proofs Go.Dec Go.Fra
theorem infoMr : (Tryz.prog.info? 56).map (fun i => (i.zero, i.size, i.bytes)) = some (some (.slice none 0 0), 1, 24) := by kernel_rfl
theorem infoFr : (Tryz.prog.info? 36).map (fun i => (i.zero, i.size, i.bytes)) = some (some (.agg #[.string ⟨#[]⟩, .string ⟨#[]⟩]), 2, 32) := by kernel_rfl
set_option maxRecDepth 10000 in
set_option maxHeartbeats 2000000 in
theorem Diagonal_main (vl : Value) (l : List Fr) (T : TypeId) (w : World) (hl : Frs w T vl l) (h1 : 1 ≤ l.length) (h4 : l.length ≤ 4) (hc : chkL l = 0) :
  Calls Tryz.prog 38 #[vl] w (MatPost w 0 (diagM l)) := by
 obtain ⟨im, im1, im2, im3, im4⟩ := info_parts infoMr
 obtain ⟨i0, hi, hz0, hz1, hz2⟩ := info_parts infoFr
 have HCK := Lib.hid (fun w' hb => checkList_ok vl l T w' (hl.later hb))
 rw [hc] at HCK
 obtain ⟨al, capl, rfl, hcl1, hcl2, hread⟩ := hl.read
 have HRD : Hid (∀ r, r < l.length → ∃ b off, al = some ⟨b, off, none⟩ ∧ b < w.heap.size ∧ w.cell? ⟨b, off + r * 2, none⟩ = some (.string (l.getD r Fr.no).n) ∧ w.cell? ⟨b, off + r * 2 + 1, none⟩ = some (.string (l.getD r Fr.no).d)) := Lib.hid fun r hr => by
  obtain ⟨b, off, k1, k2, k3, k4⟩ := hread r hr
  have e : l.getD r Fr.no = l[r] := by simp [hr]
  rw [e]
  exact ⟨b, off, k1, k2, k3, k4⟩
 obtain ⟨n, hn⟩ : ∃ n, l.length = n := ⟨_, rfl⟩
 have HDR : Hid (∀ r c, c < n → (diagRow l r).getD c Fr.no = if c = r then l.getD r Fr.no else Fr.zero) := Lib.hid fun r c hc => by
  unfold diagRow
  simp [hn, hc]
 have HDL : Hid (∀ r, (diagRow l r).length = n) := Lib.hid fun r => by simp [diagRow, hn]
 have HDM : Hid ((diagM l).length = n ∧ ∀ r, r < n → (diagM l).getD r [] = diagRow l r) := Lib.hid ⟨by simp [diagM, hn], fun r hr => by simp [diagM, hn, hr]⟩
 rw [hn] at h1 h4 HRD hcl1 HCK ⊢
 have q1 : decide ((n : Int) < 1) = false := by simp; omega
 have q2 : decide ((4 : Int) < (n : Int)) = false := by simp; omega
 clear hl hc hread hn
 go_enter Tryz.func38, Tryz.ntmps38
 go_wp2_with fail
 refine (HCK.out _ (Below.refl _ _)).mono ?_
 rintro e v1 ⟨rfl, hc1⟩
 go_wp2_with (at_make; refine wpList_make_full _ rfl _ _ 44 rfl w.heap.size 56 im (.slice none 0 0) 1 Tryz.underlying44 im1 im2 im3 _ _ _ _ n rfl rfl (by omega) (by omega) (by rw [im4]; omega) (by unfold maxLen; omega) hc1.size ?_)
 intro w2 hown hgrow
 have hb2 : Below w.heap.size w w2 := Bt hc1 ((Below.refl _ _).grown hgrow (Nat.le_refl _) (fun k hk => by cases hk))
 have HM := Lib.hid (MFill.start (f := diagRow l) hown)
 obtain ⟨M, EM⟩ : ∃ y : Nat, Hid (v1.heap.size = y) := ⟨_, Lib.hid rfl⟩
 rw [EM.out] at HM ⊢
 have hMw : w.heap.size ≤ M := by rw [← EM.out]; exact hc1.size
 clear hown hgrow hc1 EM
 go_wp2_with fail
 go_loopw [26] (fun iv wr => ∃ r : Nat, iv = .int .i64 (r : Int) ∧ r ≤ n ∧ Hid (MFill wr M n r (diagRow l)) ∧ Below w.heap.size w wr) (fun iv _ => n - (intOf iv).toNat)
 case atStart => exact ⟨0, rfl, by omega, HM, hb2⟩
 case round =>
  clear HM hb2
  obtain ⟨r, rfl, hr, HM, hb⟩ := hrel
  rcases Nat.lt_or_ge r n with hlt | hge
  ·obtain ⟨wo, hwo⟩ : ∃ y, y = wr := ⟨_, rfl⟩
   subst hwo
   have hlt2 : (r : Int) < (n : Int) := by omega
   have lM := HM.out.lt
   go_wp2_with (at_make; refine wpList_make_full _ rfl _ _ 56 rfl wo.heap.size 36 i0 (.agg #[.string ⟨#[]⟩, .string ⟨#[]⟩]) 2 Tryz.underlying56 hi hz0 hz1 _ _ _ _ n rfl rfl (by omega) (by omega) (by rw [hz2]; omega) (by unfold maxLen; omega) (Nat.le_refl _) ?_)
   intro w3 hown hgrow
   have hb3 : Below wo.heap.size wo w3 := (Below.refl _ _).grown hgrow (Nat.le_refl _) (fun k hk => by cases hk)
   have HF := Lib.hid (Fill.start (ok := FrC (fun c => (diagRow l r).getD c Fr.no)) hown)
   obtain ⟨G, EG⟩ : ∃ y : Nat, Hid (wo.heap.size = y) := ⟨_, Lib.hid rfl⟩
   rw [EG.out] at HF ⊢
   have hGw : wo.heap.size ≤ G := by rw [EG.out]; exact Nat.le_refl _
   have HM3 := HM.out.later hb3
   obtain ⟨⟨y1, cy1⟩, fy⟩ := HM3.cell hlt
   have lM3 := HM3.lt
   have isM := HM3.isT
   obtain ⟨arrM, bM, hsz, -⟩ := HM3
   have hrs : r < arrM.size := by omega
   have HBM := Lib.hid bM
   have lG := HF.out.lt
   clear hown hgrow
   have hGM : G ≠ M := by omega
   have hMG : M ≠ G := by omega
   have hN3 : Near wo (w3.setCell ⟨M, r, none⟩ (.slice (some ⟨G, 0, none⟩) n n)) M := ((Near.refl wo M).below hb3).set _ _
   have HF4 := Lib.hid (((HF.out.congrF (f' := fun _ => Fr.zero) (fun i hi => by omega)).other (a := ⟨M, r, none⟩) (.slice (some ⟨G, 0, none⟩) n n) hGM))
   have HB4 := Lib.hid (bM.set r (.slice (some ⟨G, 0, none⟩) n n))
   go_wp2_with fail
   clear cy1 fy lM3 isM lG HF hGw
   go_loopw [37] (fun iv wi => ∃ c : Nat, iv = .int .i64 (c : Int) ∧ c ≤ n ∧ Hid (Fill wi G 36 n c (FrC fun _ => Fr.zero)) ∧ Hid (Box wi M (arrM.setIfInBounds r (.slice (some ⟨G, 0, none⟩) n n)) 56) ∧ Hid (Near wo wi M)) (fun iv _ => n - (intOf iv).toNat)
   case atStart => exact ⟨0, rfl, by omega, HF4, HB4, Lib.hid hN3⟩
   case round =>
    clear HF4 HB4 hN3 bM
    obtain ⟨c, rfl, hcn, HF, HB, HN⟩ := hrel
    have cM := HB.out.cell r
    rw [Array.getElem?_setIfInBounds, if_pos rfl, if_pos hrs] at cM
    have lMi := HB.out.lt
    have lGi := HF.out.lt
    rcases Nat.lt_or_ge c n with hcl | hcl
    ·obtain ⟨⟨z1, cz1⟩, ⟨z2, cz2⟩, fz⟩ := HF.out.cells hcl
     have hcl2 : (c : Int) < (n : Int) := by omega
     go_wp2_with fail
     go_roundw
     case rel => exact ⟨c + 1, by go_num, by omega, Lib.hid (HF.out.step hcl (fun _ _ _ h => h) ⟨rfl, rfl⟩), Lib.hid ((HB.out.setOther _ hMG).setOther _ hMG), Lib.hid ((HN.out.setNew (by rw [EG.out]; exact Nat.le_refl _) _ _).setNew (by rw [EG.out]; exact Nat.le_refl _) _ _)⟩
     case measure => simp [intOf]; omega
    ·obtain rfl : c = n := by omega
     obtain ⟨b, off, rfl, lb, cl1, cl2⟩ := HRD.out r hlt
     have hbi : Below w.heap.size w wr := HN.out.toBelow hb hMw
     have ci1 := (hbi.cell (p := ⟨b, off + r * 2, none⟩) lb).trans cl1
     have ci2 := (hbi.cell (p := ⟨b, off + r * 2 + 1, none⟩) lb).trans cl2
     clear cl1 cl2
     go_wp2_with fail
     refine wp_region_walk [(.pure, 0), (.pure, 1), (.pure, 2), (.read, 3), (.pure, 4), (.pure, 5), (.pure, 6), (.pure, 7), (.read, 8), (.pure, 9), (.fin, 10)] (by kernel_rfl) (by kernel_rfl) (allocRuns_of (by kernel_rfl)) (fun _ _ _ _ hd h => And.intro (hd.trans (And.left h)) (And.right h)) ?_
     repeat (first | (refine walk_pure0 rfl rfl (fun J hJ => ?_); go_simp; refine hJ _ ?_; clear hJ J) | (refine walk_load rfl rfl rfl rfl (fun J hJ => ?_); go_simp; refine hJ _ ?_; clear hJ J; try go_simp))
     refine walk_fin [_] rfl (fun w9 hb9 => ?_)
     have hb9' : Below wr.heap.size wr w9 := belA
     replace HF := Lib.hid (HF.out.laterF hb9')
     replace HB := Lib.hid (HB.out.later hb9')
     replace HN := Lib.hid (HN.out.below hb9')
     obtain ⟨⟨z1, cz1⟩, ⟨z2, cz2⟩, fz⟩ := HF.out.cells hlt
     go_wp2_with fail
     go_roundw
     case rel =>
      have hN2 := (HN.out.setNew (P := G) (by rw [EG.out]; exact Nat.le_refl _) (r * 2) (.string (l.getD r Fr.no).n)).setNew (P := G) (by rw [EG.out]; exact Nat.le_refl _) (r * 2 + 1) (.string (l.getD r Fr.no).d)
      refine ⟨r + 1, by go_num, by omega, Lib.hid (HM.out.step (v := .slice (some ⟨G, 0, none⟩) c c) hlt hN2 (fun arr hA => ?_) ?_), hN2.toBelow hb hMw⟩
      ·have hAM : arr = arrM := Fra.Box.uniq (hA.later hb3) HBM.out
       rw [hAM]
       exact (HB.out.setOther _ hMG).setOther _ hMG
      ·refine Fill.frs ((HF.out.put hlt).congrF fun i hi => ?_) (HDL.out r) (by omega)
       exact (HDR.out r i hi).symm
     case measure => simp [intOf]; omega
  ·obtain rfl : r = n := by omega
   have hmv : MatV wr (.slice (some ⟨M, 0, none⟩) r r) (diagM l) := by
    obtain ⟨e1, e2⟩ := HDM.out
    have hM := HM.out
    have : MatV wr (.slice (some ⟨M, 0, none⟩) (diagM l).length (diagM l).length) (diagM l) := by
     refine MFill.matV ?_ (by omega)
     rw [e1]
     obtain ⟨arr, k1, k2, k3⟩ := hM
     refine ⟨arr, k1, k2, fun i hi => ?_⟩
     show ∃ v, arr[i]? = some v ∧ Frs wr 36 v ((diagM l).getD i [])
     rw [e2 i hi]
     exact k3 i hi
    rw [e1] at this
    exact this
   have HMV := Lib.hid hmv
   clear hmv
   go_wp2_with fail
   go_ret2
   exact MatPost.yes hb HMV.out
set_option maxRecDepth 10000 in
theorem Diagonal_len (a : Option Addr) (n cap : Nat) (m : List (List Fr)) (w : World) (h : n < 1 ∨ 4 < n) :
  Calls Tryz.prog 38 #[.slice a n cap] w (MatPost w 2 m) := by
 rcases h with h | h
 ·have q1 : decide ((n : Int) < 1) = true := by simp; omega
  clear h
  go_enter Tryz.func38, Tryz.ntmps38
  go_wp2_with fail
  go_ret2
  exact MatPost.no belA (by decide)
 ·have q1 : decide ((n : Int) < 1) = false := by simp; omega
  have q2 : decide ((4 : Int) < (n : Int)) = true := by simp; omega
  clear h
  go_enter Tryz.func38, Tryz.ntmps38
  go_wp2_with fail
  go_ret2
  exact MatPost.no belA (by decide)
set_option maxRecDepth 10000 in
theorem Diagonal_bad (vl : Value) (l : List Fr) (m : List (List Fr)) (T : TypeId) (w : World) (hl : Frs w T vl l) (h1 : 1 ≤ l.length) (h4 : l.length ≤ 4) (hc : chkL l = 20) :
  Calls Tryz.prog 38 #[vl] w (MatPost w 20 m) := by
 have HCK := Lib.hid (fun w' hb => checkList_ok vl l T w' (hl.later hb))
 rw [hc] at HCK
 obtain ⟨al, capl, rfl, -⟩ := hl.read
 obtain ⟨n, hn⟩ : ∃ n, l.length = n := ⟨_, rfl⟩
 rw [hn] at h1 h4 HCK ⊢
 have q1 : decide ((n : Int) < 1) = false := by simp; omega
 have q2 : decide ((4 : Int) < (n : Int)) = false := by simp; omega
 clear hl hc hn
 go_enter Tryz.func38, Tryz.ntmps38
 go_wp2_with fail
 refine (HCK.out _ (Below.refl _ _)).mono ?_
 rintro e v1 ⟨rfl, hc1⟩
 go_wp2_with fail
 go_ret2
 exact MatPost.no hc1 (by decide)
theorem Diagonal_ok (vl : Value) (l : List Fr) (T : TypeId) (w : World) (hl : Frs w T vl l) :
  Calls Tryz.prog 38 #[vl] w (MatPost w (diagE l) (diagM l)) := by
 unfold diagE
 by_cases h : l.length < 1 ∨ 4 < l.length
 ·rw [if_pos h]
  obtain ⟨al, capl, rfl, -⟩ := hl.read
  exact Diagonal_len _ _ _ _ w h
 ·rw [if_neg h]
  have hc : chkL l = 0 ∨ chkL l = 20 := by unfold chkL; split <;> simp
  rcases hc with hc | hc
  ·rw [hc]
   exact Diagonal_main vl l T w hl (by omega) (by omega) hc
  ·rw [hc]
   exact Diagonal_bad vl l _ T w hl (by omega) (by omega) hc
set_option maxRecDepth 10000 in
theorem Identity_arg (n : Int) (m : List (List Fr)) (w : World) (h : n < 1 ∨ 4 < n) :
  Calls Tryz.prog 29 #[.int .i64 n] w (MatPost w 2 m) := by
 rcases h with h | h
 ·have q1 : decide (n < 1) = true := by simp; omega
  clear h
  go_enter Tryz.func29, Tryz.ntmps29
  go_wp2_with fail
  go_ret2
  exact MatPost.no belA (by decide)
 ·have q1 : decide (n < 1) = false := by simp; omega
  have q2 : decide ((4 : Int) < n) = true := by simp; omega
  clear h
  go_enter Tryz.func29, Tryz.ntmps29
  go_wp2_with fail
  go_ret2
  exact MatPost.no belA (by decide)
set_option maxRecDepth 10000 in
set_option maxHeartbeats 2000000 in
theorem Identity_main (n : Nat) (w : World) (h1 : 1 ≤ n) (h4 : n ≤ 4) :
  Calls Tryz.prog 29 #[.int .i64 (n : Int)] w (MatPost w 0 (diagM (List.replicate n Fr.one))) := by
 obtain ⟨i0, hi, hz0, hz1, hz2⟩ := info_parts infoFr
 have q1 : decide ((n : Int) < 1) = false := by simp; omega
 have q2 : decide ((4 : Int) < (n : Int)) = false := by simp; omega
 have HDG : Hid (∀ v w', Frs w' 36 v (List.replicate n Fr.one) → Calls Tryz.prog 38 #[v] w' (MatPost w' 0 (diagM (List.replicate n Fr.one)))) := Lib.hid fun v w' h => by
  have := Diagonal_ok v _ _ w' h
  have e : diagE (List.replicate n Fr.one) = 0 := by
   unfold diagE
   rw [List.length_replicate, if_neg (by omega)]
   unfold chkL
   rw [if_pos]
   rw [List.all_eq_true]
   intro a ha
   obtain ⟨-, rfl⟩ := List.mem_replicate.1 ha
   decide +kernel
  rw [e] at this
  exact this
 go_enter Tryz.func29, Tryz.ntmps29
 go_wp2_with (at_make; refine wpList_make_full _ rfl _ _ 56 rfl w.heap.size 36 i0 (.agg #[.string ⟨#[]⟩, .string ⟨#[]⟩]) 2 Tryz.underlying56 hi hz0 hz1 _ _ _ _ n rfl rfl (by omega) (by omega) (by rw [hz2]; omega) (by unfold maxLen; omega) (Nat.le_refl _) ?_)
 intro w3 hown hgrow
 have hb3 : Below w.heap.size w w3 := (Below.refl _ _).grown hgrow (Nat.le_refl _) (fun k hk => by cases hk)
 have HF := Lib.hid (Fill.start (ok := FrC (fun _ => Fr.one)) hown)
 clear hown hgrow
 go_wp2_with fail
 go_loopw [16] (fun iv wr => ∃ c : Nat, iv = .int .i64 (c : Int) ∧ c ≤ n ∧ Hid (Fill wr w.heap.size 36 n c (FrC fun _ => Fr.one)) ∧ Below w.heap.size w wr) (fun iv _ => n - (intOf iv).toNat)
 case atStart => exact ⟨0, rfl, by omega, HF, hb3⟩
 case round =>
  clear HF hb3
  obtain ⟨c, rfl, hcn, HF, hb⟩ := hrel
  have lG := HF.out.lt
  rcases Nat.lt_or_ge c n with hcl | hcl
  ·obtain ⟨⟨z1, cz1⟩, ⟨z2, cz2⟩, fz⟩ := HF.out.cells hcl
   have hcl2 : (c : Int) < (n : Int) := by omega
   go_wp2_with fail
   go_roundw
   case rel => exact ⟨c + 1, by go_num, by omega, Lib.hid (HF.out.step hcl (fun _ _ _ h => h) ⟨rfl, rfl⟩), (hb.setCell (by simp) _).setCell (by simp) _⟩
   case measure => simp [intOf]; omega
  ·obtain rfl : c = n := by omega
   have hfr : Frs wr 36 (.slice (some ⟨w.heap.size, 0, none⟩) c c) (List.replicate c Fr.one) := by
    refine Fill.frs (HF.out.congrF fun i hi => ?_) (by simp) (by omega)
    simp [hi]
   have HFR := Lib.hid hfr
   clear hfr
   go_wp2_with fail
   refine (HDG.out _ _ HFR.out).mono ?_
   rintro e w5 ⟨hb5, v, rfl, hy, -⟩
   have HV := Lib.hid (hy rfl)
   clear hy
   go_wp2_with fail
   go_ret2
   exact MatPost.yes (Bt hb hb5) HV.out
theorem Identity_ok (n : Int) (w : World) : Calls Tryz.prog 29 #[.int .i64 n] w (MatPost w (idE n) (diagM (List.replicate n.toNat Fr.one))) := by
 unfold idE
 by_cases h : n < 1 ∨ 4 < n
 ·rw [if_pos h]
  exact Identity_arg n _ w h
 ·rw [if_neg h]
  have e : n = ((n.toNat : Nat) : Int) := by omega
  have := Identity_main n.toNat w (by omega) (by omega)
  rw [← e] at this
  exact this
end Go.Proofs.matrix
namespace Go.Proofs.matrix
open Go Go.RowKit Go.SW Go.Num Go.Mem Go.Proofs Go.Dec
set_option maxRecDepth 10000 in
theorem signed_ok (m : Value) (n : Nat) (b : Bool) (w : World) (h : Mag w m n) :
  Calls Tryz.prog 69 #[m, .bool b] w (fun e w' => ∃ v, e = .returned v ∧ Below w.heap.size w w' ∧ IntV w' v (sgd n b)) := by
 obtain ⟨paH, lH, caH, rfl⟩ := h.slice; have H := Lib.hid h; clear h
 cases b
 all_goals
  go_enter Tryz.func69, Tryz.ntmps69
  go_wp2_with (go_at_call 60; refine (zero_ok _ n _ magA).mono ?_; rintro e w1 ⟨rfl, rfl⟩)
  refine ret_c rfl rfl boxA Tryz.underlying99 rfl (by kernel_rfl) ?_
  refine ⟨_, rfl, belA, IntV.mk magA (sgd_natAbs n _).symm ?_⟩
  rw [← sgd_neg]
  rfl
set_option maxRecDepth 10000 in
theorem number_ok (z : Int) (hz : (Lib.decDigits z.natAbs).length ≤ 600) (w : World) :
  Calls Tryz.prog 140 #[itxt z] w (fun e w' => ∃ v, e = .returned v ∧ Below w.heap.size w w' ∧ IntV w' v z) := by
 have HC := Lib.hid (whole.cutPrefix_ok ⟨(Lib.itoa z).toArray⟩)
 have e1 : (⟨(Lib.itoa z).toArray⟩ : ByteArray).data.toList = Lib.itoa z := rfl
 rw [e1, cut_itoa] at HC
 have HG := Lib.hid (fun w => gather_ok ⟨(Lib.decDigits z.natAbs).toArray⟩ (Nat.le_trans hz (by omega)) (digS_dec _) w)
 have e2 : (⟨(Lib.decDigits z.natAbs).toArray⟩ : ByteArray).data.toList = Lib.decDigits z.natAbs := rfl
 rw [e2, num_dec] at HG
 clear hz
 unfold itxt
 go_enter Tryz.func140, Tryz.ntmps140
 go_wp2_with (first
  | (go_at_call 189; refine (HC.out _).mono ?_; rintro e w1 ⟨rfl, rfl⟩)
  | (go_at_call 190; refine (HG.out _).mono ?_; rintro e w2 ⟨v, rfl, hb2, hv⟩; obtain ⟨paHV, lHV, caHV, rfl⟩ := hv.slice; have HV := Lib.hid hv; clear hv; have BR := Box.later (Box.new _ _ _) hb2; have cBR := BR.cell; have fBR := BR.free))
 refine ret_c rfl rfl boxA Tryz.underlying99 rfl (by kernel_rfl) ?_
 exact ⟨_, rfl, belA, IntV.of_neg magA⟩
set_option maxRecDepth 10000 in
theorem opposite_ok (v : Value) (z : Int) (w : World) (h : IntV w v z) :
  Calls Tryz.prog 72 #[v] w (fun e w' => ∃ v, e = .returned v ∧ Below w.heap.size w w' ∧ IntV w' v (-z)) := by
 obtain ⟨paH, lH, caH, rfl, H⟩ := h; replace H := Lib.hid H
 go_enter Tryz.func72, Tryz.ntmps72
 go_wp2_with (go_at_call 69; refine (signed_ok _ _ _ _ magA).mono ?_; rintro e w1 ⟨v, rfl, hb1, hv⟩; obtain ⟨paH1, lH1, caH1, rfl, H1⟩ := hv; replace H1 := Lib.hid H1; have BR := Box.later (Box.at1 _ _ _ _) hb1; have cBR := BR.cell; have fBR := BR.free)
 refine ret_c rfl rfl boxA Tryz.underlying99 rfl (by kernel_rfl) ?_
 exact ⟨_, rfl, belA, (IntV.of_neg magA).cast (sgd_opp z)⟩
set_option maxRecDepth 10000 in
theorem scaled_ok (v u : Value) (z : Int) (n : Nat) (w : World) (h : IntV w v z) (hu : Mag w u n) (hz : sz 1000000000 z.natAbs ≤ 549755813888) (hn : sz 1000000000 n ≤ 549755813888) :
  Calls Tryz.prog 62 #[v, u] w (fun e w' => ∃ v, e = .returned v ∧ Below w.heap.size w w' ∧ IntV w' v (z * n)) := by
 obtain ⟨paH, lH, caH, rfl, H⟩ := h; replace H := Lib.hid H
 obtain ⟨paHU, lHU, caHU, rfl⟩ := hu.slice; have HU := Lib.hid hu; clear hu
 have HN := Lib.hid hn
 have HZ := Lib.hid hz
 clear hn hz
 go_enter Tryz.func62, Tryz.ntmps62
 go_wp2_with fail
 refine wp_region_walk [(.pure, 0), (.read, 1), (.pure, 2), (.pure, 4), (.read, 5), (.ext, 3), (.ext, 6), (.fin, 7)] (by kernel_rfl) (by kernel_rfl) (allocRuns_of (by kernel_rfl)) (fun _ _ _ _ hd h => And.intro (hd.trans (And.left h)) (And.right h)) ?_
 repeat (first | (refine walk_pure0 rfl rfl (fun J hJ => ?_); go_simp; refine hJ _ ?_; clear hJ J) | (refine walk_load rfl rfl rfl rfl (fun J hJ => ?_); go_simp; refine hJ _ ?_; clear hJ J; try go_simp))
 refine walk_ext rfl rfl (fun w1 hb1 J hJ => ?_); go_simp
 have BR := Box.later (Box.drew (Box.at1 _ _ _ _)) hb1; have cBR := BR.cell; have fBR := BR.free
 refine (times_ok _ _ _ _ _ magA magA (Nat.le_trans HZ.out (by omega)) (Nat.le_trans HN.out (by omega))).mono ?_
 rintro e w2 ⟨v, rfl, hb2, hv⟩
 obtain ⟨paHV, lHV, caHV, rfl⟩ := hv.slice; have HV := Lib.hid hv; clear hv
 replace BR := Box.later (BR) hb2; replace cBR := BR.cell; replace fBR := BR.free
 refine hJ _ _ hb2 ?_
 clear hJ J
 refine walk_ext rfl rfl (fun w3 hb3 J hJ => ?_); go_simp
 replace BR := Box.later (BR) hb3; replace cBR := BR.cell; replace fBR := BR.free
 refine (signed_ok _ (z.natAbs * n) _ _ magA).mono ?_
 rintro e w4 ⟨v, rfl, hb4, hv⟩
 obtain ⟨paH4, lH4, caH4, rfl, H4⟩ := hv; replace H4 := Lib.hid H4
 replace BR := Box.later (BR) hb4; replace cBR := BR.cell; replace fBR := BR.free
 refine hJ _ _ hb4 ?_
 clear hJ J
 refine walk_fin [_] rfl (fun w5 hb5 => ?_)
 replace BR := Box.later (BR) hb5; replace cBR := BR.cell; replace fBR := BR.free
 go_wp2_with fail
 refine ret_c rfl rfl boxA Tryz.underlying99 rfl (by kernel_rfl) ?_
 exact ⟨_, rfl, belA, (IntV.of_neg magA).cast (sgd_mul z n)⟩
end Go.Proofs.matrix
namespace Go.Proofs.matrix
open Go Go.RowKit Go.SW Go.Num Go.Mem Go.Proofs Go.Dec
set_option maxRecDepth 10000 in
theorem sum_same (pa pb : Option Addr) (l m ca cb : Nat) (z y : Int) (b : Bool) (w : World) (h : Mag w (.slice pa l ca) z.natAbs) (h2 : Mag w (.slice pb m cb) y.natAbs) (hz : decide (z < 0) = b) (hy : decide (y < 0) = b) (kz : sz 1000000000 z.natAbs ≤ 549755813888) (ky : sz 1000000000 y.natAbs ≤ 549755813888) :
  Calls Tryz.prog 132 #[.agg #[.slice pa l ca, .bool b], .agg #[.slice pb m cb, .bool b]] w (fun e w' => ∃ v, e = .returned v ∧ Below w.heap.size w w' ∧ IntV w' v (z + y)) := by
 have H := Lib.hid h
 have H2 := Lib.hid h2
 have KZ := Lib.hid kz
 have KY := Lib.hid ky
 have HE := Lib.hid (sgd_add hz hy)
 clear h h2 kz ky hz hy
 cases b
 all_goals
  go_enter Tryz.func132, Tryz.ntmps132
  go_wp2_with fail
  refine wp_region_walk [(.pure, 0), (.read, 1), (.pure, 2), (.read, 3), (.pure, 5), (.read, 6), (.ext, 4), (.ext, 7), (.fin, 8)] (by kernel_rfl) (by kernel_rfl) (allocRuns_of (by kernel_rfl)) (fun _ _ _ _ hd h => And.intro (hd.trans (And.left h)) (And.right h)) ?_
  repeat (first | (refine walk_pure0 rfl rfl (fun J hJ => ?_); go_simp; refine hJ _ ?_; clear hJ J) | (refine walk_load rfl rfl rfl rfl (fun J hJ => ?_); go_simp; refine hJ _ ?_; clear hJ J; try go_simp))
  refine walk_ext rfl rfl (fun w1 hb1 J hJ => ?_); go_simp
  have BR := Box.later (Box.drew (Box.at2 _ _ _ _ _)) hb1; have cBR := BR.cell; have fBR := BR.free
  refine (plus_ok _ _ z.natAbs y.natAbs _ magA magA (Nat.le_trans KZ.out (by omega)) (Nat.le_trans KY.out (by omega))).mono ?_
  rintro e v1 ⟨v, rfl, hc1, hv⟩
  obtain ⟨paHS, lHS, caHS, rfl⟩ := hv.slice; have HS := Lib.hid hv; clear hv
  replace BR := Box.later (BR) hc1; replace cBR := BR.cell; replace fBR := BR.free
  refine hJ _ _ hc1 ?_
  clear hJ J
  refine walk_ext rfl rfl (fun w2 hb2 J hJ => ?_); go_simp
  replace BR := Box.later (BR) hb2; replace cBR := BR.cell; replace fBR := BR.free
  refine (signed_ok _ (z.natAbs + y.natAbs) _ _ magA).mono ?_
  rintro e v2 ⟨v, rfl, hc2, hv⟩
  obtain ⟨paHT, lHT, caHT, rfl, HT⟩ := hv; replace HT := Lib.hid HT
  replace BR := Box.later (BR) hc2; replace cBR := BR.cell; replace fBR := BR.free
  refine hJ _ _ hc2 ?_
  clear hJ J
  refine walk_fin [_] rfl (fun w5 hb5 => ?_)
  replace BR := Box.later (BR) hb5; replace cBR := BR.cell; replace fBR := BR.free
  go_wp2_with fail
  refine ret_c rfl rfl boxA Tryz.underlying99 rfl (by kernel_rfl) ?_
  exact ⟨_, rfl, belA, (IntV.of_neg magA).cast HE.out⟩
set_option maxRecDepth 10000 in
set_option maxHeartbeats 1000000 in
theorem sum_diff (pa pb : Option Addr) (l m ca cb : Nat) (z y : Int) (b : Bool) (w : World) (h : Mag w (.slice pa l ca) z.natAbs) (h2 : Mag w (.slice pb m cb) y.natAbs) (hz : decide (z < 0) = b) (hy : decide (y < 0) = !b) (kz : sz 1000000000 z.natAbs ≤ 549755813888) (ky : sz 1000000000 y.natAbs ≤ 549755813888) :
  Calls Tryz.prog 132 #[.agg #[.slice pa l ca, .bool b], .agg #[.slice pb m cb, .bool !b]] w (fun e w' => ∃ v, e = .returned v ∧ Below w.heap.size w w' ∧ IntV w' v (z + y)) := by
 have H := Lib.hid h
 have H2 := Lib.hid h2
 have KZ := Lib.hid kz
 have KY := Lib.hid ky
 rcases Nat.lt_or_ge z.natAbs y.natAbs with hlt | hge
 ·have HE : Hid (sgd (y.natAbs - z.natAbs) (!b) = z + y) := by
   have := sgd_sub (z := y) (y := z) (b := !b) hy (by rw [hz, Bool.not_not])
   rw [if_pos (by omega)] at this
   exact this.trans (Int.add_comm _ _)
  have HC := Lib.hid (sgn_lt hlt)
  have HL := Lib.hid hlt
  clear h h2 kz ky hz hy hlt
  cases b
  all_goals
   go_enter Tryz.func132, Tryz.ntmps132
   go_wp2_with fail
   refine ((compare_ok _ _ z.natAbs y.natAbs _ magA magA).mono (by rw [HC.out]; exact fun _ _ h => h)).mono ?_
   rintro e v1 ⟨rfl, hc1⟩
   have BR := Box.later (Box.at2 _ _ _ _ _) hc1; have cBR := BR.cell; have fBR := BR.free
   have B1 := Box.later (Box.alloc (Box.at1 _ _ _ _) _) hc1; have cB1 := B1.cell; have fB1 := B1.free
   have B0 := Box.later (Box.alloc (Box.alloc (Box.new _ _ _) _) _) hc1; have cB0 := B0.cell; have fB0 := B0.free
   go_wp2_with fail
   refine wp_region_walk [(.pure, 0), (.read, 1), (.pure, 2), (.read, 3), (.pure, 5), (.read, 6), (.ext, 4), (.ext, 7), (.fin, 8)] (by kernel_rfl) (by kernel_rfl) (allocRuns_of (by kernel_rfl)) (fun _ _ _ _ hd h => And.intro (hd.trans (And.left h)) (And.right h)) ?_
   repeat (first | (refine walk_pure0 rfl rfl (fun J hJ => ?_); go_simp; refine hJ _ ?_; clear hJ J) | (refine walk_load rfl rfl rfl rfl (fun J hJ => ?_); go_simp; refine hJ _ ?_; clear hJ J; try go_simp))
   refine walk_ext rfl rfl (fun w2 hb2 J hJ => ?_); go_simp
   replace BR := Box.later (Box.drew BR) hb2; replace cBR := BR.cell; replace fBR := BR.free
   refine (minus_ok _ _ y.natAbs z.natAbs _ magA magA (Nat.le_trans KY.out (by omega)) (Nat.le_of_lt HL.out)).mono ?_
   rintro e v2 ⟨v, rfl, hc2, hv⟩
   obtain ⟨paHD, lHD, caHD, rfl⟩ := hv.slice; have HD := Lib.hid hv; clear hv
   replace BR := Box.later (BR) hc2; replace cBR := BR.cell; replace fBR := BR.free
   refine hJ _ _ hc2 ?_
   clear hJ J
   refine walk_ext rfl rfl (fun w3 hb3 J hJ => ?_); go_simp
   replace BR := Box.later (BR) hb3; replace cBR := BR.cell; replace fBR := BR.free
   refine (signed_ok _ (y.natAbs - z.natAbs) _ _ magA).mono ?_
   rintro e v3 ⟨v, rfl, hc3, hv⟩
   obtain ⟨paHT, lHT, caHT, rfl, HT⟩ := hv; replace HT := Lib.hid HT
   replace BR := Box.later (BR) hc3; replace cBR := BR.cell; replace fBR := BR.free
   refine hJ _ _ hc3 ?_
   clear hJ J
   refine walk_fin [_] rfl (fun w5 hb5 => ?_)
   replace BR := Box.later (BR) hb5; replace cBR := BR.cell; replace fBR := BR.free
   go_wp2_with fail
   refine ret_c rfl rfl boxA Tryz.underlying99 rfl (by kernel_rfl) ?_
   exact ⟨_, rfl, belA, (IntV.of_neg magA).cast HE.out⟩
 ·have HE : Hid (sgd (z.natAbs - y.natAbs) b = z + y) := by
   have := sgd_sub (z := z) (y := y) (b := b) hz hy
   rw [if_pos (by omega)] at this
   exact this
  have hs : sgn z.natAbs y.natAbs = 0 ∨ sgn z.natAbs y.natAbs = 1 := by
   rcases Nat.lt_or_ge y.natAbs z.natAbs with h2 | h2
   ·exact .inr (sgn_gt h2)
   ·have : z.natAbs = y.natAbs := by omega
    rw [this]; exact .inl (sgn_eq _)
  have HL := Lib.hid hge
  clear h h2 kz ky hz hy hge
  rcases hs with hs | hs <;> cases b
  all_goals
   have HC := Lib.hid hs
   clear hs
   go_enter Tryz.func132, Tryz.ntmps132
   go_wp2_with fail
   refine ((compare_ok _ _ z.natAbs y.natAbs _ magA magA).mono (by rw [HC.out]; exact fun _ _ h => h)).mono ?_
   rintro e v1 ⟨rfl, hc1⟩
   have BR := Box.later (Box.at2 _ _ _ _ _) hc1; have cBR := BR.cell; have fBR := BR.free
   have B1 := Box.later (Box.alloc (Box.at1 _ _ _ _) _) hc1; have cB1 := B1.cell; have fB1 := B1.free
   have B0 := Box.later (Box.alloc (Box.alloc (Box.new _ _ _) _) _) hc1; have cB0 := B0.cell; have fB0 := B0.free
   go_wp2_with fail
   refine wp_region_walk [(.pure, 0), (.read, 1), (.pure, 2), (.read, 3), (.pure, 5), (.read, 6), (.ext, 4), (.ext, 7), (.fin, 8)] (by kernel_rfl) (by kernel_rfl) (allocRuns_of (by kernel_rfl)) (fun _ _ _ _ hd h => And.intro (hd.trans (And.left h)) (And.right h)) ?_
   repeat (first | (refine walk_pure0 rfl rfl (fun J hJ => ?_); go_simp; refine hJ _ ?_; clear hJ J) | (refine walk_load rfl rfl rfl rfl (fun J hJ => ?_); go_simp; refine hJ _ ?_; clear hJ J; try go_simp))
   refine walk_ext rfl rfl (fun w2 hb2 J hJ => ?_); go_simp
   replace BR := Box.later (Box.drew BR) hb2; replace cBR := BR.cell; replace fBR := BR.free
   refine (minus_ok _ _ z.natAbs y.natAbs _ magA magA (Nat.le_trans KZ.out (by omega)) HL.out).mono ?_
   rintro e v2 ⟨v, rfl, hc2, hv⟩
   obtain ⟨paHD, lHD, caHD, rfl⟩ := hv.slice; have HD := Lib.hid hv; clear hv
   replace BR := Box.later (BR) hc2; replace cBR := BR.cell; replace fBR := BR.free
   refine hJ _ _ hc2 ?_
   clear hJ J
   refine walk_ext rfl rfl (fun w3 hb3 J hJ => ?_); go_simp
   replace BR := Box.later (BR) hb3; replace cBR := BR.cell; replace fBR := BR.free
   refine (signed_ok _ (z.natAbs - y.natAbs) _ _ magA).mono ?_
   rintro e v3 ⟨v, rfl, hc3, hv⟩
   obtain ⟨paHT, lHT, caHT, rfl, HT⟩ := hv; replace HT := Lib.hid HT
   replace BR := Box.later (BR) hc3; replace cBR := BR.cell; replace fBR := BR.free
   refine hJ _ _ hc3 ?_
   clear hJ J
   refine walk_fin [_] rfl (fun w5 hb5 => ?_)
   replace BR := Box.later (BR) hb5; replace cBR := BR.cell; replace fBR := BR.free
   go_wp2_with fail
   refine ret_c rfl rfl boxA Tryz.underlying99 rfl (by kernel_rfl) ?_
   exact ⟨_, rfl, belA, (IntV.of_neg magA).cast HE.out⟩
theorem sum_ok (v u : Value) (z y : Int) (w : World) (h : IntV w v z) (h2 : IntV w u y) (kz : sz 1000000000 z.natAbs ≤ 549755813888) (ky : sz 1000000000 y.natAbs ≤ 549755813888) :
  Calls Tryz.prog 132 #[v, u] w (fun e w' => ∃ v, e = .returned v ∧ Below w.heap.size w w' ∧ IntV w' v (z + y)) := by
 obtain ⟨pa, l, ca, rfl, hm⟩ := h
 obtain ⟨pb, m, cb, rfl, hm2⟩ := h2
 by_cases hb : decide (z < 0) = decide (y < 0)
 ·rw [hb]
  exact sum_same pa pb l m ca cb z y (decide (y < 0)) w hm hm2 hb rfl kz ky
 ·have hb2 : decide (y < 0) = !decide (z < 0) := by
   cases h1 : decide (z < 0) <;> cases h2 : decide (y < 0) <;> simp_all
  rw [hb2]
  exact sum_diff pa pb l m ca cb z y (decide (z < 0)) w hm hm2 rfl hb2 kz ky
set_option maxRecDepth 10000 in
theorem text_ok (v : Value) (z : Int) (w : World) (h : IntV w v z) (kz : sz 1000000000 z.natAbs ≤ 1099511627776) (ht : Bld.Pow w) :
  Calls Tryz.prog 124 #[v] w (fun e w' => e = .returned (itxt z) ∧ Below w.heap.size w w') := by
 obtain ⟨pa, l, ca, rfl, hm⟩ := h
 have hlen : ((1 + (Lib.decDigits z.natAbs).length : Nat) : Int) ≤ 9223372036854775807 := by
  have h1 := dec_len_val (dig_digs (B := 1000000000) (by omega) z.natAbs)
  rw [val_digs (by omega)] at h1
  unfold sz at kz
  omega
 have hlen2 : ¬ 9223372036854775807 < 1 + (Lib.decDigits z.natAbs).length := by omega
 have H := Lib.hid hm
 have KZ := Lib.hid kz
 have HT := Lib.hid ht
 clear hm kz ht hlen
 by_cases hz : z < 0
 ·have e : itxt z = .string ⟨(45 :: Lib.decDigits z.natAbs).toArray⟩ := by unfold itxt Lib.itoa; rw [if_pos hz]
  rw [e, decide_eq_true hz]
  clear e hz
  go_enter Tryz.func124, Tryz.ntmps124
  go_wp2_with fail
  refine (digits_ok _ z.natAbs _ magA KZ.out (HT.out.later belA)).mono ?_
  rintro e v1 ⟨rfl, hc1⟩
  go_wp2_with fail
  go_ret
  exact ⟨rfl, belA⟩
 ·have e : itxt z = .string ⟨(Lib.decDigits z.natAbs).toArray⟩ := by unfold itxt Lib.itoa; rw [if_neg hz, show z.toNat = z.natAbs by omega]
  rw [e, decide_eq_false hz]
  clear e hz
  go_enter Tryz.func124, Tryz.ntmps124
  go_wp2_with fail
  refine (digits_ok _ z.natAbs _ magA KZ.out (HT.out.later belA)).mono ?_
  rintro e v1 ⟨rfl, hc1⟩
  go_wp2_with fail
  go_ret
  exact ⟨rfl, belA⟩
end Go.Proofs.matrix
namespace Go.Proofs.matrix
open Go Go.RowKit Go.SW Go.Num Go.Mem Go.Proofs Go.Dec
set_option maxRecDepth 10000 in
theorem product_ok (v u : Value) (z y : Int) (w : World) (h : IntV w v z) (h2 : IntV w u y) (kz : sz 1000000000 z.natAbs ≤ 549755813888) (ky : sz 1000000000 y.natAbs ≤ 549755813888) :
  Calls Tryz.prog 130 #[v, u] w (fun e w' => ∃ v, e = .returned v ∧ Below w.heap.size w w' ∧ IntV w' v (z * y)) := by
 obtain ⟨paH, lH, caH, rfl, H⟩ := h; replace H := Lib.hid H
 obtain ⟨paH2, lH2, caH2, rfl, H2⟩ := h2; replace H2 := Lib.hid H2
 have KZ := Lib.hid kz
 have KY := Lib.hid ky
 clear kz ky
 go_enter Tryz.func130, Tryz.ntmps130
 go_wp2_with fail
 refine wp_region_walk [(.pure, 0), (.read, 1), (.pure, 2), (.read, 3), (.pure, 5), (.read, 6), (.pure, 7), (.read, 8), (.pure, 9), (.ext, 4), (.ext, 10), (.fin, 11)] (by kernel_rfl) (by kernel_rfl) (allocRuns_of (by kernel_rfl)) (fun _ _ _ _ hd h => And.intro (hd.trans (And.left h)) (And.right h)) ?_
 repeat (first | (refine walk_pure0 rfl rfl (fun J hJ => ?_); go_simp; refine hJ _ ?_; clear hJ J) | (refine walk_load rfl rfl rfl rfl (fun J hJ => ?_); go_simp; refine hJ _ ?_; clear hJ J; try go_simp))
 refine walk_ext rfl rfl (fun w1 hb1 J hJ => ?_); go_simp
 have BR := Box.later (Box.drew (Box.at2 _ _ _ _ _)) hb1; have cBR := BR.cell; have fBR := BR.free
 refine (times_ok _ _ z.natAbs y.natAbs _ magA magA (Nat.le_trans KZ.out (by omega)) (Nat.le_trans KY.out (by omega))).mono ?_
 rintro e v1 ⟨v, rfl, hc1, hv⟩
 obtain ⟨paHS, lHS, caHS, rfl⟩ := hv.slice; have HS := Lib.hid hv; clear hv
 replace BR := Box.later (BR) hc1; replace cBR := BR.cell; replace fBR := BR.free
 refine hJ _ _ hc1 ?_
 clear hJ J
 refine walk_ext rfl rfl (fun w2 hb2 J hJ => ?_); go_simp
 replace BR := Box.later (BR) hb2; replace cBR := BR.cell; replace fBR := BR.free
 refine (signed_ok _ (z.natAbs * y.natAbs) _ _ magA).mono ?_
 rintro e v2 ⟨v, rfl, hc2, hv⟩
 obtain ⟨paHT, lHT, caHT, rfl, HT⟩ := hv; replace HT := Lib.hid HT
 replace BR := Box.later (BR) hc2; replace cBR := BR.cell; replace fBR := BR.free
 refine hJ _ _ hc2 ?_
 clear hJ J
 refine walk_fin [_] rfl (fun w5 hb5 => ?_)
 replace BR := Box.later (BR) hb5; replace cBR := BR.cell; replace fBR := BR.free
 go_wp2_with fail
 refine ret_c rfl rfl boxA Tryz.underlying99 rfl (by kernel_rfl) ?_
 exact ⟨_, rfl, belA, (IntV.of_neg magA).cast (sgd_prod z y)⟩
end Go.Proofs.matrix
namespace Go.Proofs.matrix
open Go Go.RowKit Go.SW Go.Num Go.Mem Go.Proofs Go.Dec Go.Fra
set_option maxRecDepth 10000 in
theorem multiple_ok (x y : Value) (a b : Nat) (w : World) (hx : Mag w x a) (hy : Mag w y b) (ha : 0 < a) (ka : sz 1000000000 a ≤ 549755813888) (kb : sz 1000000000 b ≤ 549755813888) :
  Calls Tryz.prog 139 #[x, y] w (fun e w' => ∃ v, e = .returned v ∧ Below w.heap.size w w' ∧ Mag w' v (a * (b / a.gcd b))) := by
 obtain ⟨paH, lH, caH, rfl⟩ := hx.slice; have H := Lib.hid hx; clear hx
 obtain ⟨paG, lG, caG, rfl⟩ := hy.slice; have G := Lib.hid hy; clear hy
 have hg : 0 < a.gcd b := Nat.gcd_pos_of_pos_left _ ha
 have kc := @sz_div b (a.gcd b)
 obtain ⟨g, Eg⟩ : ∃ y : Nat, Hid (a.gcd b = y) := ⟨_, Lib.hid rfl⟩
 rw [Eg.out] at hg kc ⊢
 obtain ⟨c, Ec⟩ : ∃ y : Nat, Hid (b / g = y) := ⟨_, Lib.hid rfl⟩
 rw [Ec.out] at kc ⊢
 obtain ⟨d, Ed⟩ : ∃ y : Nat, Hid (a * c = y) := ⟨_, Lib.hid rfl⟩
 rw [Ed.out]
 have HG := Lib.hid hg
 have KC := Lib.hid (Nat.le_trans kc kb)
 have KA := Lib.hid ka
 have KB := Lib.hid kb
 clear hg ha kc ka kb
 go_enter Tryz.func139, Tryz.ntmps139
 go_wp2_with fail
 refine ((gcd_ok _ _ a b _ magA magA KA.out KB.out).mono (by rw [Eg.out]; exact fun _ _ h => h)).mono ?_
 rintro e v1 ⟨v, rfl, hc1, hv⟩
 obtain ⟨paHg, lHg, caHg, rfl⟩ := hv.slice; have Hg := Lib.hid hv; clear hv
 replace H := Lib.hid (Mag.carry H.out magA hc1)
 replace G := Lib.hid (Mag.carry G.out magA hc1)
 go_wp2_with fail
 refine ((divide_ok _ _ b g _ magA magA HG.out KB.out).mono (by rw [Ec.out]; exact fun _ _ h => h)).mono ?_
 rintro e v2 ⟨v, vr, rfl, hc2, hv, hvr⟩
 obtain ⟨paHc, lHc, caHc, rfl⟩ := hv.slice; have Hc := Lib.hid hv; clear hv; obtain ⟨paHcr, lHcr, caHcr, rfl⟩ := hvr.slice; have Hcr := Lib.hid hvr; clear hvr
 replace H := Lib.hid (Mag.later H.out hc2)
 replace G := Lib.hid (Mag.later G.out hc2)
 replace Hg := Lib.hid (Mag.later Hg.out hc2)
 go_wp2_with fail
 refine ((times_ok _ _ a c _ magA magA (Nat.le_trans KA.out (by omega)) (Nat.le_trans KC.out (by omega))).mono (by rw [Ed.out]; exact fun _ _ h => h)).mono ?_
 rintro e v3 ⟨v, rfl, hc3, hv⟩
 obtain ⟨paHd, lHd, caHd, rfl⟩ := hv.slice; have Hd := Lib.hid hv; clear hv
 replace H := Lib.hid (Mag.later H.out hc3)
 go_wp2_with fail
 go_ret
 exact ⟨_, rfl, belA, Hd.out⟩
set_option maxRecDepth 10000 in
set_option maxHeartbeats 1000000 in
theorem write_ok (x y : Value) (n d : Int) (w : World) (hx : IntV w x n) (hy : IntV w y d) (hd : d ≠ 0) (kn : sz 1000000000 n.natAbs ≤ 549755813888) (kd : sz 1000000000 d.natAbs ≤ 549755813888) (ht : Bld.Pow w) :
  Calls Tryz.prog 61 #[x, y] w (fun e w' => e = .returned (Fr.res (wr ((n : Rat) / (d : Rat)))) ∧ Below w.heap.size w w') := by
 obtain ⟨paH, lH, caH, rfl, H⟩ := hx; replace H := Lib.hid H
 obtain ⟨paG, lG, caG, rfl, G⟩ := hy; replace G := Lib.hid G
 have hdp : 0 < d.natAbs := by omega
 rw [← make_eq n d hd]
 have hp := mk_parts (sgd n.natAbs (!(decide (n < 0) == decide (d < 0)))) hdp
 rw [sgd_natAbs] at hp
 have hg : 0 < n.natAbs.gcd d.natAbs := Nat.gcd_pos_of_pos_right _ hdp
 have kt := @sz_div n.natAbs (n.natAbs.gcd d.natAbs)
 have kb := @sz_div d.natAbs (n.natAbs.gcd d.natAbs)
 obtain ⟨q, Eq⟩ : ∃ y : Rat, Hid (mkRat (sgd n.natAbs (Bool.not (decide (n < 0) == decide (d < 0)))) d.natAbs = y) := ⟨_, Lib.hid rfl⟩
 rw [show mkRat (sgd n.natAbs (!(decide (n < 0) == decide (d < 0)))) d.natAbs = q from Eq.out] at hp ⊢
 obtain ⟨g, Eg⟩ : ∃ y : Nat, Hid (n.natAbs.gcd d.natAbs = y) := ⟨_, Lib.hid rfl⟩
 rw [Eg.out] at hg kt kb hp
 obtain ⟨t, Et⟩ : ∃ y : Nat, Hid (n.natAbs / g = y) := ⟨_, Lib.hid rfl⟩
 rw [Et.out] at kt hp
 obtain ⟨b, Eb⟩ : ∃ y : Nat, Hid (d.natAbs / g = y) := ⟨_, Lib.hid rfl⟩
 rw [Eb.out] at kb hp
 have hnum : q.num.natAbs = t := by rw [hp.1, sgd_natAbs]
 have hden : q.den = b := hp.2
 have htxt : q.num = sgd t (!(decide (n < 0) == decide (d < 0))) := by
  rw [hp.1]
  unfold sgd
  by_cases h0 : t = 0
  ·simp [h0]
  ·have hn0 : n.natAbs ≠ 0 := fun e => h0 (by rw [← Et.out, e]; simp)
   by_cases h1 : n < 0 <;> by_cases h2 : d < 0 <;> simp [h1, h2] <;> omega
 have HG := Lib.hid hg
 have KT := Lib.hid (Nat.le_trans kt kn)
 have KB := Lib.hid (Nat.le_trans kb kd)
 have KN := Lib.hid kn
 have KD := Lib.hid kd
 have HT := Lib.hid ht
 clear hg kt kb kn kd ht hp hd hdp
 rcases Nat.lt_or_ge 600 (Lib.decDigits t).length with h1 | h1
 ·rw [wr_big (by unfold okq; rw [hnum, okn_no h1]; rfl)]
  clear hnum hden htxt
  go_enter Tryz.func61, Tryz.ntmps61
  go_wp2_with fail
  refine ((gcd_ok _ _ n.natAbs d.natAbs _ magA magA KN.out KD.out).mono (by rw [Eg.out]; exact fun _ _ h => h)).mono ?_
  rintro e v1 ⟨v, rfl, hc1, hv⟩
  obtain ⟨paHg, lHg, caHg, rfl⟩ := hv.slice; have Hg := Lib.hid hv; clear hv
  replace H := Lib.hid (Mag.carry H.out magA hc1)
  replace G := Lib.hid (Mag.carry G.out magA hc1)
  have BR := Box.later (Box.at2 _ _ _ _ _) hc1; have cBR := BR.cell; have fBR := BR.free; have lBR := BR.lt
  have B1 := Box.later (Box.alloc (Box.at1 _ _ _ _) _) hc1; have cB1 := B1.cell; have fB1 := B1.free; have lB1 := B1.lt
  have B0 := Box.later (Box.alloc (Box.alloc (Box.new _ _ _) _) _) hc1; have cB0 := B0.cell; have fB0 := B0.free; have lB0 := B0.lt
  go_wp2_with fail
  refine ((divide_ok _ _ n.natAbs g _ magA magA HG.out KN.out).mono (by rw [Et.out]; exact fun _ _ h => h)).mono ?_
  rintro e v2 ⟨v, vr, rfl, hc2, hv, hvr⟩
  obtain ⟨paHt, lHt, caHt, rfl⟩ := hv.slice; have Ht := Lib.hid hv; clear hv; obtain ⟨paHtr, lHtr, caHtr, rfl⟩ := hvr.slice; have Htr := Lib.hid hvr; clear hvr
  replace H := Lib.hid (Mag.later H.out hc2)
  replace G := Lib.hid (Mag.later G.out hc2)
  replace Hg := Lib.hid (Mag.later Hg.out hc2)
  replace BR := Box.later (BR) hc2; replace cBR := BR.cell; replace fBR := BR.free; replace lBR := BR.lt
  replace B1 := Box.later (B1) hc2; replace cB1 := B1.cell; replace fB1 := B1.free; replace lB1 := B1.lt
  replace B0 := Box.later (B0) hc2; replace cB0 := B0.cell; replace fB0 := B0.free; replace lB0 := B0.lt
  go_wp2_with fail
  refine ((divide_ok _ _ d.natAbs g _ magA magA HG.out KD.out).mono (by rw [Eb.out]; exact fun _ _ h => h)).mono ?_
  rintro e v3 ⟨v, vr, rfl, hc3, hv, hvr⟩
  obtain ⟨paHb, lHb, caHb, rfl⟩ := hv.slice; have Hb := Lib.hid hv; clear hv; obtain ⟨paHbr, lHbr, caHbr, rfl⟩ := hvr.slice; have Hbr := Lib.hid hvr; clear hvr
  replace Ht := Lib.hid (Mag.later Ht.out hc3)
  replace BR := Box.later (BR) hc3; replace cBR := BR.cell; replace fBR := BR.free; replace lBR := BR.lt
  replace B1 := Box.later (B1) hc3; replace cB1 := B1.cell; replace fB1 := B1.free; replace lB1 := B1.lt
  replace B0 := Box.later (B0) hc3; replace cB0 := B0.cell; replace fB0 := B0.free; replace lB0 := B0.lt
  go_wp2_with fail
  refine (length_ok _ t _ magA (Nat.le_trans KT.out (by omega)) (HT.out.later belA)).mono ?_
  rintro e v4 ⟨rfl, hc4⟩
  replace BR := Box.later (BR) hc4; replace cBR := BR.cell; replace fBR := BR.free; replace lBR := BR.lt
  go_wp2_with fail
  refine ret_ct rfl rfl boxA Tryz.underlying36 rfl (by kernel_rfl) ?_
  exact ⟨rfl, belA⟩
 ·rcases Nat.lt_or_ge 600 (Lib.decDigits b).length with h2 | h2
  ·rw [wr_big (by unfold okq; rw [hden, okn_no h2, Bool.and_false])]
   clear hnum hden htxt
   go_enter Tryz.func61, Tryz.ntmps61
   go_wp2_with fail
   refine ((gcd_ok _ _ n.natAbs d.natAbs _ magA magA KN.out KD.out).mono (by rw [Eg.out]; exact fun _ _ h => h)).mono ?_
   rintro e v1 ⟨v, rfl, hc1, hv⟩
   obtain ⟨paHg, lHg, caHg, rfl⟩ := hv.slice; have Hg := Lib.hid hv; clear hv
   replace H := Lib.hid (Mag.carry H.out magA hc1)
   replace G := Lib.hid (Mag.carry G.out magA hc1)
   have BR := Box.later (Box.at2 _ _ _ _ _) hc1; have cBR := BR.cell; have fBR := BR.free; have lBR := BR.lt
   have B1 := Box.later (Box.alloc (Box.at1 _ _ _ _) _) hc1; have cB1 := B1.cell; have fB1 := B1.free; have lB1 := B1.lt
   have B0 := Box.later (Box.alloc (Box.alloc (Box.new _ _ _) _) _) hc1; have cB0 := B0.cell; have fB0 := B0.free; have lB0 := B0.lt
   go_wp2_with fail
   refine ((divide_ok _ _ n.natAbs g _ magA magA HG.out KN.out).mono (by rw [Et.out]; exact fun _ _ h => h)).mono ?_
   rintro e v2 ⟨v, vr, rfl, hc2, hv, hvr⟩
   obtain ⟨paHt, lHt, caHt, rfl⟩ := hv.slice; have Ht := Lib.hid hv; clear hv; obtain ⟨paHtr, lHtr, caHtr, rfl⟩ := hvr.slice; have Htr := Lib.hid hvr; clear hvr
   replace H := Lib.hid (Mag.later H.out hc2)
   replace G := Lib.hid (Mag.later G.out hc2)
   replace Hg := Lib.hid (Mag.later Hg.out hc2)
   replace BR := Box.later (BR) hc2; replace cBR := BR.cell; replace fBR := BR.free; replace lBR := BR.lt
   replace B1 := Box.later (B1) hc2; replace cB1 := B1.cell; replace fB1 := B1.free; replace lB1 := B1.lt
   replace B0 := Box.later (B0) hc2; replace cB0 := B0.cell; replace fB0 := B0.free; replace lB0 := B0.lt
   go_wp2_with fail
   refine ((divide_ok _ _ d.natAbs g _ magA magA HG.out KD.out).mono (by rw [Eb.out]; exact fun _ _ h => h)).mono ?_
   rintro e v3 ⟨v, vr, rfl, hc3, hv, hvr⟩
   obtain ⟨paHb, lHb, caHb, rfl⟩ := hv.slice; have Hb := Lib.hid hv; clear hv; obtain ⟨paHbr, lHbr, caHbr, rfl⟩ := hvr.slice; have Hbr := Lib.hid hvr; clear hvr
   replace Ht := Lib.hid (Mag.later Ht.out hc3)
   replace BR := Box.later (BR) hc3; replace cBR := BR.cell; replace fBR := BR.free; replace lBR := BR.lt
   replace B1 := Box.later (B1) hc3; replace cB1 := B1.cell; replace fB1 := B1.free; replace lB1 := B1.lt
   replace B0 := Box.later (B0) hc3; replace cB0 := B0.cell; replace fB0 := B0.free; replace lB0 := B0.lt
   go_wp2_with fail
   refine (length_ok _ t _ magA (Nat.le_trans KT.out (by omega)) (HT.out.later belA)).mono ?_
   rintro e v4 ⟨rfl, hc4⟩
   replace Ht := Lib.hid (Mag.later Ht.out hc4)
   replace Hb := Lib.hid (Mag.later Hb.out hc4)
   replace BR := Box.later (BR) hc4; replace cBR := BR.cell; replace fBR := BR.free; replace lBR := BR.lt
   go_wp2_with fail
   refine (length_ok _ b _ magA (Nat.le_trans KB.out (by omega)) (HT.out.later belA)).mono ?_
   rintro e v5 ⟨rfl, hc5⟩
   replace BR := Box.later (BR) hc5; replace cBR := BR.cell; replace fBR := BR.free; replace lBR := BR.lt
   go_wp2_with fail
   refine ret_ct rfl rfl boxA Tryz.underlying36 rfl (by kernel_rfl) ?_
   exact ⟨rfl, belA⟩
  ·rw [wr_ok (by unfold okq; rw [hnum, hden, okn_len.2 h1, okn_len.2 h2]; rfl), htxt, hden]
   obtain ⟨s, Es⟩ : ∃ y : Int, Hid (sgd t (Bool.not (decide (n < 0) == decide (d < 0))) = y) := ⟨_, Lib.hid rfl⟩
   rw [show sgd t (!(decide (n < 0) == decide (d < 0))) = s from Es.out]
   have KS : Hid (sz 1000000000 s.natAbs ≤ 549755813888) := by unfold Hid; rw [← Es.out, sgd_natAbs]; exact KT.out
   clear hnum hden htxt
   go_enter Tryz.func61, Tryz.ntmps61
   go_wp2_with fail
   refine ((gcd_ok _ _ n.natAbs d.natAbs _ magA magA KN.out KD.out).mono (by rw [Eg.out]; exact fun _ _ h => h)).mono ?_
   rintro e v1 ⟨v, rfl, hc1, hv⟩
   obtain ⟨paHg, lHg, caHg, rfl⟩ := hv.slice; have Hg := Lib.hid hv; clear hv
   replace H := Lib.hid (Mag.carry H.out magA hc1)
   replace G := Lib.hid (Mag.carry G.out magA hc1)
   have BR := Box.later (Box.at2 _ _ _ _ _) hc1; have cBR := BR.cell; have fBR := BR.free; have lBR := BR.lt
   have B1 := Box.later (Box.alloc (Box.at1 _ _ _ _) _) hc1; have cB1 := B1.cell; have fB1 := B1.free; have lB1 := B1.lt
   have B0 := Box.later (Box.alloc (Box.alloc (Box.new _ _ _) _) _) hc1; have cB0 := B0.cell; have fB0 := B0.free; have lB0 := B0.lt
   go_wp2_with fail
   refine ((divide_ok _ _ n.natAbs g _ magA magA HG.out KN.out).mono (by rw [Et.out]; exact fun _ _ h => h)).mono ?_
   rintro e v2 ⟨v, vr, rfl, hc2, hv, hvr⟩
   obtain ⟨paHt, lHt, caHt, rfl⟩ := hv.slice; have Ht := Lib.hid hv; clear hv; obtain ⟨paHtr, lHtr, caHtr, rfl⟩ := hvr.slice; have Htr := Lib.hid hvr; clear hvr
   replace H := Lib.hid (Mag.later H.out hc2)
   replace G := Lib.hid (Mag.later G.out hc2)
   replace Hg := Lib.hid (Mag.later Hg.out hc2)
   replace BR := Box.later (BR) hc2; replace cBR := BR.cell; replace fBR := BR.free; replace lBR := BR.lt
   replace B1 := Box.later (B1) hc2; replace cB1 := B1.cell; replace fB1 := B1.free; replace lB1 := B1.lt
   replace B0 := Box.later (B0) hc2; replace cB0 := B0.cell; replace fB0 := B0.free; replace lB0 := B0.lt
   go_wp2_with fail
   refine ((divide_ok _ _ d.natAbs g _ magA magA HG.out KD.out).mono (by rw [Eb.out]; exact fun _ _ h => h)).mono ?_
   rintro e v3 ⟨v, vr, rfl, hc3, hv, hvr⟩
   obtain ⟨paHb, lHb, caHb, rfl⟩ := hv.slice; have Hb := Lib.hid hv; clear hv; obtain ⟨paHbr, lHbr, caHbr, rfl⟩ := hvr.slice; have Hbr := Lib.hid hvr; clear hvr
   replace Ht := Lib.hid (Mag.later Ht.out hc3)
   replace BR := Box.later (BR) hc3; replace cBR := BR.cell; replace fBR := BR.free; replace lBR := BR.lt
   replace B1 := Box.later (B1) hc3; replace cB1 := B1.cell; replace fB1 := B1.free; replace lB1 := B1.lt
   replace B0 := Box.later (B0) hc3; replace cB0 := B0.cell; replace fB0 := B0.free; replace lB0 := B0.lt
   go_wp2_with fail
   refine (length_ok _ t _ magA (Nat.le_trans KT.out (by omega)) (HT.out.later belA)).mono ?_
   rintro e v4 ⟨rfl, hc4⟩
   replace Ht := Lib.hid (Mag.later Ht.out hc4)
   replace Hb := Lib.hid (Mag.later Hb.out hc4)
   replace BR := Box.later (BR) hc4; replace cBR := BR.cell; replace fBR := BR.free; replace lBR := BR.lt
   replace B1 := Box.later (B1) hc4; replace cB1 := B1.cell; replace fB1 := B1.free; replace lB1 := B1.lt
   replace B0 := Box.later (B0) hc4; replace cB0 := B0.cell; replace fB0 := B0.free; replace lB0 := B0.lt
   go_wp2_with fail
   refine (length_ok _ b _ magA (Nat.le_trans KB.out (by omega)) (HT.out.later belA)).mono ?_
   rintro e v5 ⟨rfl, hc5⟩
   replace Ht := Lib.hid (Mag.later Ht.out hc5)
   replace Hb := Lib.hid (Mag.later Hb.out hc5)
   replace BR := Box.later (BR) hc5; replace cBR := BR.cell; replace fBR := BR.free; replace lBR := BR.lt
   replace B1 := Box.later (B1) hc5; replace cB1 := B1.cell; replace fB1 := B1.free; replace lB1 := B1.lt
   replace B0 := Box.later (B0) hc5; replace cB0 := B0.cell; replace fB0 := B0.free; replace lB0 := B0.lt
   go_wp2_with fail
   refine ((signed_ok _ t _ _ magA).mono (by rw [show sgd t (!(decide (n < 0) == decide (d < 0))) = s from Es.out]; exact fun _ _ h => h)).mono ?_
   rintro e v6 ⟨v, rfl, hc6, hv⟩
   obtain ⟨paHs, lHs, caHs, rfl, Hs⟩ := hv; replace Hs := Lib.hid Hs
   replace Hb := Lib.hid (Mag.later Hb.out hc6)
   replace BR := Box.later (BR) hc6; replace cBR := BR.cell; replace fBR := BR.free; replace lBR := BR.lt
   go_wp2_with fail
   refine ((text_ok _ s _ (IntV.of_neg magA) (Nat.le_trans KS.out (by omega)) (HT.out.later belA)).mono (fun _ _ h => by unfold itxt at h; exact h)).mono ?_
   rintro e v7 ⟨rfl, hc7⟩
   replace Hb := Lib.hid (Mag.later Hb.out hc7)
   replace BR := Box.later (BR) hc7; replace cBR := BR.cell; replace fBR := BR.free; replace lBR := BR.lt
   go_wp2_with fail
   refine (digits_ok _ b _ magA (Nat.le_trans KB.out (by omega)) (HT.out.later belA)).mono ?_
   rintro e v8 ⟨rfl, hc8⟩
   replace BR := Box.later (BR) hc8; replace cBR := BR.cell; replace fBR := BR.free; replace lBR := BR.lt
   go_wp2_with fail
   refine ret_ct rfl rfl boxA Tryz.underlying36 rfl (by kernel_rfl) ?_
   exact ⟨rfl, belA⟩
end Go.Proofs.matrix
namespace Go.Proofs.matrix
open Go Go.RowKit Go.SW Go.Num Go.Mem Go.Proofs Go.Dec Go.Fra
theorem infoI : (Tryz.prog.info? 99).map (fun i => (i.zero, i.size, i.bytes)) = some (some (.agg #[.slice none 0 0, .bool false]), 2, 32) := by kernel_rfl
theorem field_int (pa : Option Addr) (l ca : Nat) (b : Bool) (w : World) : (Instr.field 99 (.agg #[.slice pa l ca, .bool b]) 0).run Tryz.prog w = .ok (.slice pa l ca) w := by kernel_rfl
def CommonPost (w : World) (qs : List Rat) (e : Ending) (w' : World) : Prop := ∃ vt vb, e = .returned (.tuple #[vt, vb]) ∧ Below w.heap.size w w' ∧ IntsV w' vt (qs.map (ctop (cden qs))) ∧ Mag w' vb (cden qs)
set_option maxRecDepth 10000 in
set_option maxHeartbeats 2000000 in
theorem common_ok (v : Value) (qs : List Rat) (T : TypeId) (w : World) (h : Frs w T v (qs.map Fr.of)) (hq : ∀ q ∈ qs, okq q = true) (hl : qs.length ≤ 1000) :
  Calls Tryz.prog 78 #[v] w (CommonPost w qs) := by
 obtain ⟨i0, hi, hz0, hz1, hz2⟩ := info_parts infoI
 obtain ⟨a, cap, rfl, hc1, hc2, hread⟩ := h.read
 have hln : (qs.map Fr.of).length = qs.length := List.length_map _
 have hread2 : ∀ k (h : k < qs.length), ∃ b off, a = some ⟨b, off, none⟩ ∧ b < w.heap.size ∧ w.cell? ⟨b, off + k * 2, none⟩ = some (.string ⟨(Lib.itoa qs[k].num).toArray⟩) ∧ w.cell? ⟨b, off + k * 2 + 1, none⟩ = some (.string ⟨(Lib.itoa (qs[k].den : Int)).toArray⟩) := fun k hk => by
  obtain ⟨b, off, e1, e2, e3, e4⟩ := hread k (by omega)
  simp only [List.getElem_map] at e3 e4
  exact ⟨b, off, e1, e2, e3, e4⟩
 rw [hln] at hc1 ⊢
 have HRD := Lib.hid hread2
 have hlen : ∀ k (h : k < qs.length), (Lib.decDigits qs[k].num.natAbs).length ≤ 600 ∧ (Lib.decDigits ((qs[k].den : Nat) : Int).natAbs).length ≤ 600 := fun k h => by
  have hq1 := hq _ (List.getElem_mem h)
  unfold okq at hq1
  rw [Bool.and_eq_true, okn_len, okn_len] at hq1
  exact ⟨hq1.1, (Int.natAbs_natCast qs[k].den).symm ▸ hq1.2⟩
 have HLEN := Lib.hid hlen
 have HSZ : Hid (∀ k, k ≤ qs.length → sz 1000000000 (cden (qs.take k)) ≤ 549755813888) := Lib.hid fun k hk => by
  have := cden_sz (qs.take k) (fun q h => hq q (List.mem_of_mem_take h))
  rw [List.length_take] at this
  omega
 have HPOS : Hid (∀ k, 0 < cden (qs.take k)) := Lib.hid fun k => (cden_facts _).1
 have HDEN : Hid (∀ k (h : k < qs.length), sz 1000000000 qs[k].den ≤ 549755813888 ∧ sz 1000000000 qs[k].num.natAbs ≤ 549755813888) := Lib.hid fun k h => by
  have := okq_sz (hq _ (List.getElem_mem h))
  exact ⟨Nat.le_trans this.2 (by omega), Nat.le_trans this.1 (by omega)⟩
 have HDP : Hid (∀ k (h : k < qs.length), 0 < qs[k].den) := Lib.hid fun k h => qs[k].den_pos
 clear hread hread2 hlen hq h hln
 have hfd := field_int
 go_enter Tryz.func78, Tryz.ntmps78
 go_wp2_with fail
 go_loopw [13, 3] (fun iv bv wr => ∃ k : Nat, iv = .int .i64 (k : Int) ∧ k ≤ qs.length ∧ Hid (Mag wr bv (cden (qs.take k))) ∧ Below w.heap.size w wr) (fun iv _ _ => qs.length - (intOf iv).toNat)
 case atStart => exact ⟨0, rfl, by omega, Lib.hid (show Mag _ _ 1 from Mag.lit (d := 1) (by omega) (by omega)), belA⟩
 case round =>
  obtain ⟨k, rfl, hk, HB, hb⟩ := hrel
  have hbm := HB.out
  obtain ⟨pb, lb, cb, rfl⟩ := hbm.slice
  clear hbm
  rcases Nat.lt_or_ge k qs.length with hlt | hge
  ·obtain ⟨b, off, rfl, hbl, hx1, hx2⟩ := HRD.out k hlt
   have cx1 := (hb.cell (p := ⟨b, off + k * 2, none⟩) hbl).trans hx1
   have cx2 := (hb.cell (p := ⟨b, off + k * 2 + 1, none⟩) hbl).trans hx2
   have HL2 := Lib.hid (HLEN.out k hlt).2
   have HS := Lib.hid (HSZ.out k (by omega))
   have HP := Lib.hid (HPOS.out k)
   have HD := Lib.hid (HDEN.out k hlt).1
   have HT := Lib.hid (cden_take hlt)
   clear hx1 hx2
   generalize cden (qs.take k) = ck at *
   generalize qs[k] = q at *
   go_wp2_with fail
   refine (number_ok (q.den : Int) HL2.out _).mono ?_
   rintro e v1 ⟨v, rfl, hc1, hv⟩
   obtain ⟨paHN, lHN, caHN, rfl, HN⟩ := hv; replace HN := Lib.hid HN
   rw [Int.natAbs_natCast] at HN
   replace HB := Lib.hid (Mag.carry HB.out magA hc1)
   go_wp2_with fail
   refine ((multiple_ok _ _ ck q.den _ magA magA HP.out HS.out HD.out).mono (by rw [← HT.out]; exact fun _ _ h => h)).mono ?_
   rintro e v2 ⟨v, rfl, hc2, hv⟩
   obtain ⟨paHM, lHM, caHM, rfl⟩ := hv.slice; have HM := Lib.hid hv; clear hv
   go_wp2_with fail
   go_roundw
   case rel => exact ⟨k + 1, by go_num, by omega, HM, Bt hb belA⟩
   case measure => simp [intOf]; omega
  ·obtain rfl : k = qs.length := by omega
   rw [List.take_length] at HB
   have HDV := Lib.hid (cden_facts qs).2
   have HP := Lib.hid (HPOS.out qs.length)
   have HS := Lib.hid (HSZ.out qs.length (Nat.le_refl _))
   rw [List.take_length] at HP HS
   have HX : Hid (∀ (k : Nat) (h : k < qs.length), ctop (cden qs) qs[k] = (qs.map (ctop (cden qs))).getD k 0) := Lib.hid fun k h => by simp [h]
   have HXL : Hid ((qs.map (ctop (cden qs))).length = qs.length) := Lib.hid (List.length_map _)
   obtain ⟨xs, EXS⟩ : ∃ y : List Int, Hid (qs.map (ctop (cden qs)) = y) := ⟨_, Lib.hid rfl⟩
   obtain ⟨D, HDD⟩ : ∃ y : Nat, Hid (cden qs = y) := ⟨_, Lib.hid rfl⟩
   rw [EXS.out] at HX HXL
   rw [HDD.out] at HX HB HDV HP HS
   go_wp2_with (at_make; refine wpList_make_full _ rfl _ _ 103 rfl w.heap.size 99 i0 (.agg #[.slice none 0 0, .bool false]) 2 Tryz.underlying103 hi hz0 hz1 _ _ _ _ qs.length rfl rfl (by omega) (by omega) (by rw [hz2]; omega) (by unfold maxLen; omega) hb.size ?_)
   intro w1 hown hgrow
   have hbg : Below wr.heap.size wr w1 := (Below.refl _ _).grown hgrow (Nat.le_refl _) (fun k hk => by cases hk)
   have HF := Lib.hid (Fill.start (ok := IntC (fun i => xs.getD i 0)) hown)
   replace HB := Lib.hid (HB.out.later hbg)
   have hb1 : Below w.heap.size w w1 := Bt hb hbg
   have hgb : w.heap.size ≤ wr.heap.size := hb.size
   generalize wr.heap.size = G at *
   clear hown hgrow hbg hb
   go_wp2_with fail
   go_loopw [29] (fun iv wr2 => ∃ k : Nat, iv = .int .i64 (k : Int) ∧ k ≤ qs.length ∧ Hid (Fill wr2 G 99 qs.length k (IntC (fun i => xs.getD i 0))) ∧ Hid (Mag wr2 (.slice pb lb cb) D) ∧ Below w.heap.size w wr2) (fun iv _ => qs.length - (intOf iv).toNat)
   case atStart => exact ⟨0, rfl, by omega, HF, HB, hb1⟩
   case round =>
    obtain ⟨k, rfl, hk, HF, HB, hb⟩ := hrel
    rcases Nat.lt_or_ge k qs.length with hlt | hge
    ·obtain ⟨b, off, rfl, hbl, hx1, hx2⟩ := HRD.out k hlt
     have cx1 := (hb.cell (p := ⟨b, off + k * 2, none⟩) hbl).trans hx1
     have cx2 := (hb.cell (p := ⟨b, off + k * 2 + 1, none⟩) hbl).trans hx2
     have HL1 := Lib.hid (HLEN.out k hlt).1
     have HL2 := Lib.hid (HLEN.out k hlt).2
     have HD1 := Lib.hid (HDEN.out k hlt).1
     have HD2 := Lib.hid (HDEN.out k hlt).2
     have HQ := Lib.hid (HDP.out k hlt)
     have HX2 := Lib.hid (HX.out k hlt)
     have lG := HF.out.lt
     clear hx1 hx2
     generalize qs[k] = q at *
     have hks := @sz_div D q.den
     have HKS := Lib.hid (Nat.le_trans hks HS.out)
     clear hks
     obtain ⟨c, Ec⟩ : ∃ y : Nat, Hid (D / q.den = y) := ⟨_, Lib.hid rfl⟩
     have HX3 : Hid (q.num * (c : Int) = xs.getD k 0) := Lib.hid (by rw [← HX2.out, ← Ec.out]; rfl)
     rw [Ec.out] at HKS
     go_wp2_with fail
     refine (number_ok (q.den : Int) HL2.out _).mono ?_
     rintro e v1 ⟨v, rfl, hc1, hv⟩
     obtain ⟨paHN, lHN, caHN, rfl, HN⟩ := hv; replace HN := Lib.hid HN
     rw [Int.natAbs_natCast] at HN
     replace HB := Lib.hid (Mag.carry HB.out magA hc1)
     have hbx := Box.later (Box.new _ _ _) hc1
     have cbx := hbx.cell
     have lbx := hbx.lt
     replace HF := Lib.hid (HF.out.later (Bt belA hc1) (IntC.later (Bt belA hc1)))
     go_wp2_with fail
     refine ((divide_ok _ _ D q.den _ magA magA HQ.out HS.out).mono (by rw [Ec.out]; exact fun _ _ h => h)).mono ?_
     rintro e v2 ⟨v, vr, rfl, hc2, hv, hvr⟩
     obtain ⟨paHC, lHC, caHC, rfl⟩ := hv.slice; have HC := Lib.hid hv; clear hv
     obtain ⟨paHCr, lHCr, caHCr, rfl⟩ := hvr.slice; have HCr := Lib.hid hvr; clear hvr
     clear HCr
     replace HB := Lib.hid (HB.out.later hc2)
     replace hbx := hbx.later hc2
     replace cbx := hbx.cell
     replace lbx := hbx.lt
     replace HF := Lib.hid (HF.out.later hc2 (IntC.later hc2))
     go_wp2_with fail
     refine (number_ok q.num HL1.out _).mono ?_
     rintro e v3 ⟨v, rfl, hc3, hv⟩
     obtain ⟨paHM, lHM, caHM, rfl, HM⟩ := hv; replace HM := Lib.hid HM
     replace HB := Lib.hid (HB.out.later hc3)
     replace HC := Lib.hid (HC.out.later hc3)
     replace HF := Lib.hid (HF.out.later hc3 (IntC.later hc3))
     go_wp2_with fail
     refine ((scaled_ok _ _ q.num c _ (IntV.of_neg magA) magA HD2.out HKS.out).mono (by rw [HX3.out]; exact fun _ _ h => h)).mono ?_
     rintro e v4 ⟨v, rfl, hc4, hv⟩
     obtain ⟨paHV, lHV, caHV, rfl, HV⟩ := hv; replace HV := Lib.hid HV
     replace HB := Lib.hid (HB.out.later hc4)
     replace HF := Lib.hid (HF.out.later hc4 (IntC.later hc4))
     obtain ⟨⟨y1, cy1⟩, ⟨y2, cy2⟩, fy⟩ := HF.out.cells hlt
     go_wp2_with fail
     have isG := HF.out.isT
     go_roundw
     case rel =>
      exact ⟨k + 1, by go_num, by omega, Lib.hid (HF.out.step hlt (fun i x y h => IntC.setT isG.setCell (by decide) _ _ _ (IntC.setT isG (by decide) _ _ _ h)) ⟨_, _, _, rfl, rfl, (HV.out.setT isG (by decide)).setT isG.setCell (by decide)⟩),
       Lib.hid ((HB.out.setT isG (by decide)).setT isG.setCell (by decide)), (by have hG : wr.heap.size ≥ 0 := Nat.zero_le _; exact ((Bt (Bt (Bt (Bt (Below_alloc hb _) hc1) hc2) hc3) hc4).setCell hgb _).setCell hgb _)⟩
     case measure => simp [intOf]; omega
    ·obtain rfl : k = qs.length := by omega
     have hxl := HXL.out
     have hfin : IntsV wr (.slice (some ⟨G, 0, none⟩) qs.length qs.length) xs := by
      have := HF.out
      rw [← hxl] at this ⊢
      exact IntsV.of_fill this (by omega)
     have HFIN := Lib.hid hfin
     clear hfin hxl
     go_wp2_with fail
     go_ret2
     exact ⟨_, _, rfl, hb, by rw [EXS.out]; exact HFIN.out, by rw [HDD.out]; exact HB.out⟩
end Go.Proofs.matrix
namespace Go.Proofs.matrix
open Go Go.RowKit Go.SW Go.Num Go.Mem Go.Proofs Go.Dec Go.Fra
def PairPost (w : World) (z : Int) (e : Ending) (w' : World) : Prop := ∃ v, e = .returned (.tuple #[v, .int .i64 0]) ∧ Below w.heap.size w w' ∧ IntV w' v z
set_option maxRecDepth 10000 in
set_option maxHeartbeats 1000000 in
theorem dot1_ok (bx by' : Nat) (vx vy : Value) (xs ys : List Int) (i : Nat) (w : World) (hx : IntsV w vx xs) (hy : IntsV w vy ys) (hbx : Box w bx #[vx] 103) (hby : Box w by' #[vy] 103)
  (h1 : i < xs.length) (h2 : i < ys.length) (k1 : sz 1000000000 (xs.getD i 0).natAbs ≤ 549755813888) (k2 : sz 1000000000 (ys.getD i 0).natAbs ≤ 549755813888) :
  Calls Tryz.prog 129 #[.int .i64 (i : Int), .pointer (some ⟨bx, 0, none⟩), .pointer (some ⟨by', 0, none⟩)] w (PairPost w (xs.getD i 0 * ys.getD i 0)) := by
 obtain ⟨a, cap, rfl, hc1, hc2, hread⟩ := hx.read
 obtain ⟨a', cap', rfl, hc1', hc2', hread'⟩ := hy.read
 obtain ⟨b, off, pa, n, ca, rfl, hbl, cx1, cx2, hm⟩ := hread i h1
 obtain ⟨b', off', pa', n', ca', rfl, hbl', cy1, cy2, hm'⟩ := hread' i h2
 have H := Lib.hid hm
 have H' := Lib.hid hm'
 have cbx := hbx.cell
 have cby := hby.cell
 have lx := hbx.lt
 have ly := hby.lt
 generalize xs.getD i 0 = x at *
 generalize ys.getD i 0 = u at *
 have K1 := Lib.hid k1
 have K2 := Lib.hid k2
 obtain ⟨z, Ez⟩ : ∃ y : Int, Hid (x * u = y) := ⟨_, Lib.hid rfl⟩
 rw [Ez.out]
 clear hm hm' hread hread' hx hy k1 k2 hbx hby
 go_enter Tryz.func129, Tryz.ntmps129
 go_wp2_with fail
 refine wp_region_walk [(.read, 0), (.pure, 1), (.pure, 2), (.read, 3), (.read, 4), (.pure, 5), (.pure, 6), (.read, 7), (.ext, 8), (.fin, 9), (.fin, 10)] (by kernel_rfl) (by kernel_rfl) (allocRuns_of (by kernel_rfl)) (fun _ _ _ _ hd h => And.intro (hd.trans (And.left h)) (And.right h)) ?_
 repeat (first | (refine walk_pure0 rfl rfl (fun J hJ => ?_); go_simp; refine hJ _ ?_; clear hJ J) | (refine walk_load rfl rfl rfl rfl (fun J hJ => ?_); go_simp; refine hJ _ ?_; clear hJ J; try go_simp))
 refine walk_ext rfl rfl (fun w1 hb1 J hJ => ?_); go_simp
 have BR := Box.later (Box.drew (Box.new _ _ _)) hb1; have cBR := BR.cell; have fBR := BR.free; have lBR := BR.lt
 refine ((product_ok _ _ x u _ (IntV.of_neg magA) (IntV.of_neg magA) K1.out K2.out).mono (by rw [Ez.out]; exact fun _ _ h => h)).mono ?_
 rintro e v1 ⟨v, rfl, hc1, hv⟩
 obtain ⟨paHV, lHV, caHV, rfl, HV⟩ := hv; replace HV := Lib.hid HV
 replace BR := Box.later (BR) hc1; replace cBR := BR.cell; replace fBR := BR.free; replace lBR := BR.lt
 refine hJ _ _ hc1 ?_
 clear hJ J
 refine walk_fin [_, _] rfl (fun w5 hb5 => ?_)
 replace BR := Box.later (BR) hb5; replace cBR := BR.cell; replace fBR := BR.free; replace lBR := BR.lt
 go_wp2_with fail
 refine ret_ct rfl rfl boxA Tryz.underlying99 rfl (by kernel_rfl) ?_
 exact ⟨_, rfl, belA, IntV.of_neg magA⟩
set_option maxRecDepth 10000 in
set_option maxHeartbeats 1000000 in
theorem dot2_ok (vx vy : Value) (x y : Int) (w : World) (hx : IntV w vx x) (hy : IntV w vy y) (k1 : sz 1000000000 x.natAbs ≤ 549755813888) (k2 : sz 1000000000 y.natAbs ≤ 549755813888) :
  Calls Tryz.prog 131 #[vx, vy] w (PairPost w (x + y)) := by
 obtain ⟨paH, lH, caH, rfl, H⟩ := hx; replace H := Lib.hid H
 obtain ⟨paG, lG, caG, rfl, G⟩ := hy; replace G := Lib.hid G
 have K1 := Lib.hid k1
 have K2 := Lib.hid k2
 obtain ⟨z, Ez⟩ : ∃ z : Int, Hid (x + y = z) := ⟨_, Lib.hid rfl⟩
 rw [Ez.out]
 clear k1 k2
 go_enter Tryz.func131, Tryz.ntmps131
 go_wp2_with fail
 refine ((sum_ok _ _ x y _ (IntV.of_neg magA) (IntV.of_neg magA) K1.out K2.out).mono (by rw [Ez.out]; exact fun _ _ h => h)).mono ?_
 rintro e v1 ⟨v, rfl, hc1, hv⟩
 obtain ⟨paHV, lHV, caHV, rfl, HV⟩ := hv; replace HV := Lib.hid HV
 have BR := Box.later (Box.at2 _ _ _ _ _) hc1; have cBR := BR.cell; have fBR := BR.free; have lBR := BR.lt
 go_wp2_with fail
 refine ret_ct rfl rfl boxA Tryz.underlying99 rfl (by kernel_rfl) ?_
 exact ⟨_, rfl, belA, IntV.of_neg magA⟩
/-- The sum of the first k values. -/
def psum (f : Nat → Int) : Nat → Int
 | 0 => 0
 | k + 1 => psum f k + f k
theorem psum_sz (f : Nat → Int) (K : Nat) (h : ∀ j, sz 1000000000 (f j).natAbs ≤ K) : ∀ k, sz 1000000000 (psum f k).natAbs ≤ K + k
 | 0 => by simp [psum, sz_zero]
 | k + 1 => by
  have h1 := psum_sz f K h k
  have h2 := h k
  have h3 := sz_absadd (psum f k) (f k)
  simp only [psum]
  omega
def SumPost (w : World) (z : Int) (e : Ending) (w' : World) : Prop := ∃ v, e = .returned (.tuple #[v, .int .i64 0]) ∧ Below w.heap.size w w' ∧ IntV w' v z
set_option maxRecDepth 10000 in
set_option maxHeartbeats 2000000 in
theorem sum_dot (bx by' : Nat) (vx vy : Value) (xs ys : List Int) (n : Nat) (w : World) (hx : IntsV w vx xs) (hy : IntsV w vy ys) (hbx : Box w bx #[vx] 103) (hby : Box w by' #[vy] 103)
  (h1 : xs.length = n) (h2 : ys.length = n) (h0 : 0 < n) (hn : n ≤ 1000) (k1 : ∀ i, sz 1000000000 (xs.getD i 0).natAbs ≤ 1000000) (k2 : ∀ i, sz 1000000000 (ys.getD i 0).natAbs ≤ 1000000) :
  Calls Tryz.prog 128 #[.int .i64 (n : Int), .func (.func 129) #[] #[.pointer (some ⟨bx, 0, none⟩), .pointer (some ⟨by', 0, none⟩)], .func (.func 131) #[] #[]] w (SumPost w (psum (fun i => xs.getD i 0 * ys.getD i 0) n)) := by
 have HD : Hid (∀ i, i < n → ∀ w', Below w.heap.size w w' → Calls Tryz.prog 129 #[.int .i64 (i : Int), .pointer (some ⟨bx, 0, none⟩), .pointer (some ⟨by', 0, none⟩)] w' (PairPost w' (xs.getD i 0 * ys.getD i 0))) :=
  Lib.hid fun i hi w' hb => dot1_ok bx by' vx vy xs ys i w' (hx.later hb) (hy.later hb) (hbx.later hb) (hby.later hb) (by omega) (by omega) (Nat.le_trans (k1 i) (by omega)) (Nat.le_trans (k2 i) (by omega))
 obtain ⟨f, hf⟩ : ∃ f : Nat → Int, f = fun i => xs.getD i 0 * ys.getD i 0 := ⟨_, rfl⟩
 have hfz : ∀ i, sz 1000000000 (f i).natAbs ≤ 2000000 := fun i => by
  rw [hf]
  have := sz_absmul2 (xs.getD i 0) (ys.getD i 0)
  have := k1 i
  have := k2 i
  simp only
  omega
 have HFZ : Hid (∀ i, sz 1000000000 (f i).natAbs ≤ 549755813888) := Lib.hid fun i => Nat.le_trans (hfz i) (by omega)
 have HPZ : Hid (∀ i, i ≤ n → sz 1000000000 (psum f i).natAbs ≤ 549755813888) := Lib.hid fun i hi => by
  have := psum_sz f _ hfz i
  omega
 have HD2 : Hid (∀ i, i < n → ∀ w', Below w.heap.size w w' → Calls Tryz.prog 129 #[.int .i64 (i : Int), .pointer (some ⟨bx, 0, none⟩), .pointer (some ⟨by', 0, none⟩)] w' (PairPost w' (f i))) := by
  rw [hf]
  exact HD
 rw [← hf]
 clear hf hfz HD hx hy hbx hby h1 h2 k1 k2
 have hP0 : f 0 = psum f (0 + 1) := by simp [psum]
 have HP0 := Lib.hid hP0
 clear hP0
 go_enter Tryz.func128, Tryz.ntmps128
 go_wp2_with fail
 refine (HD2.out 0 h0 _ belA).mono ?_
 rintro e v1 ⟨v, rfl, hc1, hv⟩
 obtain ⟨paHV, lHV, caHV, rfl, HV⟩ := hv; replace HV := Lib.hid HV
 rw [HP0.out] at HV ⊢
 have BR := Box.later (Box.alloc (Box.new _ _ _) _) hc1; have cBR := BR.cell; have fBR := BR.free; have lBR := BR.lt
 go_wp2_with fail
 have hbt := Box.new v1 #[.slice paHV lHV caHV, .bool (decide (psum f (0 + 1) < 0))] 99
 have hbr := BR.alloc (.cells #[.slice paHV lHV caHV, .bool (decide (psum f (0 + 1) < 0))] 99 (0, 0))
 have hbw : Below w.heap.size w v1 := Bt belA hc1
 have hnd := lBR
 clear BR cBR fBR lBR
 obtain ⟨B9, hB9⟩ : ∃ b, v1.heap.size = b := ⟨_, rfl⟩
 rw [hB9] at hbt hnd ⊢
 have HB9 := Lib.hid hB9
 clear hB9
 go_loopw [11] (fun iv wr => ∃ (k : Nat) (pa : Option Addr) (l ca : Nat), iv = .int .i64 (k : Int) ∧ 1 ≤ k ∧ k ≤ n ∧ Hid (Box wr B9 #[.slice pa l ca, .bool (decide (psum f k < 0))] 99) ∧ Hid (Mag wr (.slice pa l ca) (psum f k).natAbs) ∧ Hid (Box wr w.heap.size #[.slice none 0 0, .bool false] 99) ∧ Below w.heap.size w wr) (fun iv _ => n - (intOf iv).toNat)
 case atStart => exact ⟨1, _, _, _, rfl, by omega, by omega, Lib.hid hbt, Lib.hid magA, Lib.hid hbr, Below_alloc hbw _⟩
 case round =>
  obtain ⟨k, pa, l, ca, rfl, hk1, hk2, HT, HM, HR, hb⟩ := hrel
  have ct := HT.out.cell
  have ft := HT.out.free
  have lt := HT.out.lt
  have cr := HR.out.cell
  have fr := HR.out.free
  have lr := HR.out.lt
  have hne : w.heap.size ≠ B9 := by omega
  have hne2 : B9 ≠ w.heap.size := by omega
  rcases Nat.lt_or_ge k n with hlt | hge
  ·have HF := Lib.hid (HFZ.out k)
   have HP := Lib.hid (HPZ.out k (by omega))
   have HS : Hid (psum f k + f k = psum f (k + 1)) := Lib.hid rfl
   go_wp2_with fail
   refine (HD2.out k hlt _ hb).mono ?_
   rintro e v2 ⟨v, rfl, hc2, hv⟩
   obtain ⟨paHX, lHX, caHX, rfl, HX⟩ := hv; replace HX := Lib.hid HX
   have ht2 := HT.out.later hc2
   replace ct := ht2.cell
   replace ft := ht2.free
   replace lt := ht2.lt
   have hr2 := HR.out.later hc2
   replace HM := Lib.hid (HM.out.later hc2)
   go_wp2_with fail
   refine ((dot2_ok _ _ (psum f k) (f k) _ (IntV.of_neg magA) (IntV.of_neg magA) HP.out HF.out).mono (by rw [HS.out]; exact fun _ _ h => h)).mono ?_
   rintro e v3 ⟨v, rfl, hc3, hv⟩
   obtain ⟨paHY, lHY, caHY, rfl, HY⟩ := hv; replace HY := Lib.hid HY
   have ht3 := (ht2.alloc _).later hc3
   replace ct := ht3.cell
   replace ft := ht3.free
   replace lt := ht3.lt
   have hr3 := (hr2.alloc _).later hc3
   have is3 := ht3.isT
   clear ht2 hr2 cr fr lr
   go_wp2_with fail
   go_roundw
   case rel =>
    refine ⟨k + 1, _, _, _, by go_num, by omega, by omega, Lib.hid ((ht3.set 0 _).set 1 _), Lib.hid ((HY.out.setT is3 (by decide)).setT is3.setCell (by decide)), Lib.hid ((hr3.setOther _ hne).setOther _ hne), ?_⟩
    exact ((Bt (Below_alloc (Bt hb hc2) _) hc3).setCell (by simp; omega) _).setCell (by simp; omega) _
   case measure => simp [intOf]; omega
  ·obtain rfl : k = n := by omega
   have isr := HR.out.isT
   go_wp2_with fail
   refine ret_ct rfl rfl ((HR.out.set 0 _).set 1 _) Tryz.underlying99 rfl (by kernel_rfl) ?_
   exact ⟨_, rfl, (hb.setCell (by simp) _).setCell (by simp) _, IntV.of_neg ((HM.out.setT isr (by decide)).setT isr.setCell (by decide))⟩
end Go.Proofs.matrix
namespace Go.Proofs.matrix
open Go Go.RowKit Go.SW Go.Num Go.Mem Go.Proofs Go.Dec Go.Fra
def dotp (xs ys : List Int) : Int := psum (fun i => xs.getD i 0 * ys.getD i 0) xs.length
set_option maxRecDepth 10000 in
set_option maxHeartbeats 1000000 in
theorem dot_ok (vx vy : Value) (xs ys : List Int) (w : World) (hx : IntsV w vx xs) (hy : IntsV w vy ys)
  (h2 : ys.length = xs.length) (h0 : 0 < xs.length) (hn : xs.length ≤ 1000) (k1 : ∀ i, sz 1000000000 (xs.getD i 0).natAbs ≤ 1000000) (k2 : ∀ i, sz 1000000000 (ys.getD i 0).natAbs ≤ 1000000) :
  Calls Tryz.prog 68 #[vx, vy] w (fun e w' => ∃ v, e = .returned v ∧ Below w.heap.size w w' ∧ IntV w' v (dotp xs ys)) := by
 obtain ⟨a, cap, rfl, hc1, hc2, -⟩ := hx.read
 obtain ⟨a', cap', rfl, hc1', hc2', -⟩ := hy.read
 have HS : Hid (∀ bx by' w', Below w.heap.size w w' → Box w' bx #[.slice a xs.length cap] 103 → Box w' by' #[.slice a' ys.length cap'] 103 → Calls Tryz.prog 128 #[.int .i64 (xs.length : Int), .func (.func 129) #[] #[.pointer (some ⟨bx, 0, none⟩), .pointer (some ⟨by', 0, none⟩)], .func (.func 131) #[] #[]] w' (SumPost w' (dotp xs ys))) :=
  Lib.hid fun bx by' w' hb h3 h4 => sum_dot bx by' _ _ xs ys xs.length w' (hx.later hb) (hy.later hb) h3 h4 rfl h2 h0 hn k1 k2
 obtain ⟨z, Ez⟩ : ∃ z : Int, Hid (dotp xs ys = z) := ⟨_, Lib.hid rfl⟩
 rw [Ez.out] at HS ⊢
 clear hx hy k1 k2 h0 h2
 have hmf : ∀ (fn : Fn) (first cap : Array Value) (w : World), (Instr.makeFunc fn first cap).run Tryz.prog w = .ok (.func fn first cap) w := fun _ _ _ _ => rfl
 go_enter Tryz.func68, Tryz.ntmps68
 go_wp2_with fail
 refine (HS.out _ _ _ belA boxA boxA).mono ?_
 rintro e v1 ⟨v, rfl, hc1, hv⟩
 obtain ⟨paHV, lHV, caHV, rfl, HV⟩ := hv; replace HV := Lib.hid HV
 have BR := Box.later (Box.at2 _ _ _ _ _) hc1; have cBR := BR.cell; have fBR := BR.free; have lBR := BR.lt
 go_wp2_with fail
 refine ret_c rfl rfl boxA Tryz.underlying99 rfl (by kernel_rfl) ?_
 exact ⟨_, rfl, belA, IntV.of_neg magA⟩
end Go.Proofs.matrix
namespace Go.Proofs.matrix
open Go Go.RowKit Go.Shelf Go.SW Go.Num Go.Mem Go.Proofs Go.Dec Go.Fra
attribute [local go_sem] Oper.semAt_some
theorem infoRow : (Tryz.prog.info? 103).map (fun i => (i.zero, i.size, i.bytes)) = some (some (.slice none 0 0), 1, 24) := by kernel_rfl
theorem infoMag : (Tryz.prog.info? 97).map (fun i => (i.zero, i.size, i.bytes)) = some (some (.slice none 0 0), 1, 24) := by kernel_rfl
/-- A matrix of fractions by its numbers. -/
abbrev RM := List (List Rat)
def RM.fr (m : RM) : List (List Fr) := m.map fun r => r.map Fr.of
def rtop (r : List Rat) : List Int := r.map (ctop (cden r))
/-- The value v is the table of the matrix m. -/
def TabV (w : World) (v : Value) (m : RM) : Prop := ∃ va na ca vb nb cb, v = .agg #[.slice va na ca, .slice vb nb cb] ∧ RowsI w (.slice va na ca) (m.map rtop) ∧ MagsV w (.slice vb nb cb) (m.map cden)
theorem Box.keep {l : List TypeId} {w w' : World} {b : Nat} {cs : Array Value} {T : TypeId} (h : Box w b cs T) (k : Keep l w w') (hT : T ∉ l) : Box w' b cs T := k _ _ _ hT h
theorem keeps_grown {w w' : World} {base k : Nat} {e : TypeId} {s : Nat} {v : Value} {xs : List Value} (hown : w.ownsRow base e s v k xs) (hg : w.grownBy w' v.ownBlock) : KeepsOthers w w' :=
 ⟨hg.size, fun i o hi ho => by
  rw [hg.block i (Array.getElem?_eq_some_iff.1 hi).1 ?_]
  ·exact hi
  ·intro he
   obtain ⟨-, ⟨rfl, -⟩ | ⟨g, cap, cur, rfl, -, hgg, -⟩⟩ := hown
   ·cases he
   ·simp only [Value.ownBlock, Option.some.injEq] at he
    subst he
    rw [hi] at hgg
    cases hgg
    cases ho⟩
theorem all2_upto {β γ : Type} {R : γ → β → Prop} (f : List Rat → γ) (m : RM) {n : Nat} (hn : n = m.length) {rs : List β} (h : All2 (fun (i : Fin n) r => R (f (m.getD i.1 [])) r) (upto n (Nat.le_refl _)) rs) : All2 R (m.map f) rs := by
 obtain ⟨h1, h2⟩ := h
 rw [upto_length] at h1
 refine ⟨by rw [h1, hn, List.length_map], fun i hi hi' => ?_⟩
 have hin : i < n := by rw [List.length_map] at hi; omega
 have := h2 i (by rw [upto_length]; exact hin) hi'
 have e : ((upto n (Nat.le_refl _))[i]'(by rw [upto_length]; exact hin)) = ⟨i, hin⟩ := by simp [upto]
 rw [e] at this
 have him : i < m.length := by omega
 simpa [him] using this
/-- What the loop keeps. -/
def ReadI (w : World) (Bt : Nat) (m : RM) (n : Nat) (pre : List (Fin n)) (W : World) : Prop :=
 ∃ va na ca vb nb cb rs bs, Box W Bt #[.slice va na ca, .slice vb nb cb] 93 ∧ W.ownsRow w.heap.size 103 1 (.slice va na ca) pre.length rs ∧ W.ownsRow w.heap.size 97 1 (.slice vb nb cb) pre.length bs ∧
  All2 (fun (i : Fin n) r => IntsV W r (rtop (m.getD i.1 []))) pre rs ∧ All2 (fun (i : Fin n) r => Mag W r (cden (m.getD i.1 []))) pre bs
theorem ReadI.kept {w : World} {Bt : Nat} {m : RM} {n : Nat} {pre : List (Fin n)} {W W' : World} (h : ReadI w Bt m n pre W) (k : Keep [] W W') : ReadI w Bt m n pre W' := by
 obtain ⟨va, na, ca, vb, nb, cb, rs, bs, h1, h2, h3, h4, h5⟩ := h
 exact ⟨va, na, ca, vb, nb, cb, rs, bs, k _ _ _ (by simp) h1, owns_kept h2 k (by simp), owns_kept h3 k (by simp), h4.mono fun _ _ h => h.kept k (by simp) (by simp), h5.mono fun _ _ h => Fra.Mag.kept h k (by simp)⟩
/-- The rows of a table lie in a block from n on. -/
def FreshT (n : Nat) (v : Value) : Prop := ∀ pa k c s, v = .agg #[.slice (some pa) k c, s] → n ≤ pa.block
theorem freshT_owns {w : World} {base k n c : Nat} {T : TypeId} {va : Option Addr} {s : Value} {xs : List Value} (h : w.ownsRow base T 1 (.slice va n c) k xs) : FreshT base (.agg #[.slice va n c, s]) := by
 intro pa k' c' s' e
 simp only [Value.agg.injEq] at e
 have e1 : Value.slice va n c = .slice (some pa) k' c' := by
  have := congrArg (fun a => a[0]?) e
  simpa using this
 obtain ⟨-, ⟨h2, -⟩ | ⟨g, cap, cur, h3, h4, -⟩⟩ := h
 ·rw [e1] at h2; cases h2
 ·rw [e1] at h3
  simp only [Value.slice.injEq, Option.some.injEq] at h3
  rw [h3.1]
  exact h4
set_option maxRecDepth 100000 in
set_option maxHeartbeats 2000000 in
theorem read_own (v : Value) (m : RM) (w : World) (h : MatV w v m.fr) (hm : m.length ≤ 4) (hq : ∀ r ∈ m, r.length ≤ 4 ∧ ∀ q ∈ r, okq q = true) :
  Calls Tryz.prog 57 #[v] w fun e w' => ∃ v, e = .returned v ∧ Below w.heap.size w w' ∧ TabV w' v m ∧ FreshT w.heap.size v := by
 obtain ⟨ir, ir1, ir2, ir3, ir4⟩ := info_parts infoRow
 obtain ⟨im, im1, im2, im3, im4⟩ := info_parts infoMag
 obtain ⟨rs, hR, hlen, hF⟩ := h
 have hlm : rs.length = m.length := hlen.trans (List.length_map _)
 have HFR : Hid (∀ i (h : i < rs.length), Frs w 36 rs[i] ((m.getD i []).map Fr.of) ∧ (m.getD i []).length ≤ 4 ∧ ∀ q ∈ m.getD i [], okq q = true) := Lib.hid fun i hi => by
  have him : i < m.length := by omega
  have e : m.getD i [] = m[i] := by simp [him]
  rw [e]
  refine ⟨?_, hq _ (List.getElem_mem _)⟩
  have := hF i hi (by rw [← hlen]; exact hi)
  simpa [RM.fr] using this
 have HR := Lib.hid hR
 have HLM := Lib.hid hlm
 have hR2 := hR
 obtain ⟨a, cap, rfl, -⟩ := hR2
 clear hR hF hlen hlm hq
 refine (callsIn_wide (n := 3)).1 ?_
 refine callsIn_of_wp_marks Tryz.func57 rfl trivial ?_ rfl
 simp only [Tryz.ntmps57, List.size_toArray, List.length_cons, List.length_nil, Nat.reduceAdd, Nat.reduceSub, Array.replicate_succ, Array.replicate_zero, List.push_toArray, List.append_toArray, List.nil_append, List.cons_append]
 gi_wp2_with (refine ⟨trivial, ?_⟩; gi_at_call 112; refine (visit_in Fence.wide 2 trivial rfl _ _ _ _).mono ?_; rintro e w' ⟨rfl, rfl⟩)
 obtain ⟨W0, hW0⟩ : ∃ W0, ((w.alloc (.cells #[.slice none 0 0, .slice none 0 0] 93)).alloc (.cells #[.slice none 0 0, .slice none 0 0] 93)).alloc (.cells #[.slice a rs.length cap] 44) = W0 := ⟨_, rfl⟩
 have hB0 : Below w.heap.size w W0 := by rw [← hW0]; exact belA
 have hbx0 : Box W0 w.heap.size #[.slice none 0 0, .slice none 0 0] 93 := by rw [← hW0]; exact boxA
 have hbx1 : Box W0 (w.heap.size + 1) #[.slice none 0 0, .slice none 0 0] 93 := by rw [← hW0]; exact boxA
 have hbx2 : Box W0 (w.heap.size + 1 + 1) #[.slice a rs.length cap] 44 := by rw [← hW0]; exact boxA
 rw [hW0]
 refine wpIn_rangeFunc_ownF (α := Fin rs.length) rfl (by omega) (gf := 164) (lb := #[.pointer (some ⟨w.heap.size + 1 + 1, 0, none⟩)]) rfl trivial (enters_of Tryz.func164 (by kernel_rfl) rfl)
  (visit_stops Fence.wide 2 trivial rfl (by omega) (w.heap.size + 1 + 1) w.heap.size _ rs w _ hbx2.lt hB0.size ((hbx2.cell 0).trans rfl) HR.out (Nat.le_refl _) hB0) belowK_t (belowK_b hB0.size) (Below.refl _ _) (fun _ => rfl)
  (fun pre W => (ReadI w (w.heap.size + 1) m rs.length pre W ∧ Box W w.heap.size #[.slice none 0 0, .slice none 0 0] 93) ∧ Below w.heap.size w W)
  (fun _ _ _ => False)
  (OwnFrom.and (Own.from (fun s A B row hs hg hr => ⟨hs.1.kept (Keep.others hg hr), box_kept hs.2 hg hr⟩) _) (ownFrom_below (Nat.le_refl _) hB0.size))
  (fun _ _ _ _ _ hs _ _ => hs)
  ⟨⟨⟨_, _, _, _, _, _, [], [], hbx1, World.ownsRow_nil _ _ _ _, World.ownsRow_nil _ _ _ _, All2.nil, All2.nil⟩, hbx0⟩, hB0⟩ ?a1 ?assign ?body ?done ?stop
 case assign =>
  intro l x W K hK
  unfold enc
  gi_wp2
  exact hK
 case body =>
  rintro l pre x W ⟨⟨hI, hb0⟩, hB⟩ hpl
  obtain ⟨va, na, ca, vb, nb, cb, xs, bs, hT, ho1, ho2, h4, h5⟩ := hI
  obtain ⟨hfr, hq1, hq2⟩ := HFR.out x.1 x.2
  have hpn : pre.length < 4 := by have := HLM.out; omega
  have hx0 : rtop (m.getD x.1 []) = (m.getD x.1 []).map (ctop (cden (m.getD x.1 []))) := rfl
  obtain ⟨a', cap', hre, -⟩ := hfr.read
  have HCM := Lib.hid (common_ok rs[x.1] (m.getD x.1 []) 36 W (hfr.later hB) hq2 (by omega))
  rw [hre] at HCM
  clear hfr hq1 hq2
  generalize rs[x.1] = rx at *
  subst hre
  unfold CommonPost at HCM
  rw [← hx0] at HCM
  have H4 := Lib.hid h4
  have H5 := Lib.hid h5
  have HO1 := Lib.hid ho1
  have HO2 := Lib.hid ho2
  clear h4 h5 ho1 ho2 hx0
  have hlr : ((m.getD x.1 []).map Fr.of).length = (m.getD x.1 []).length := List.length_map _
  rw [hlr] at HCM ⊢
  have HX : Hid (∃ r : List Rat, m.getD x.1 [] = r) := Lib.hid ⟨_, rfl⟩
  obtain ⟨r, hr⟩ := HX.out
  rw [hr] at HCM ⊢
  have HRR := Lib.hid hr
  clear hr HX hlr
  gi_wp2_with (first
   | (refine ⟨trivial, ?_⟩; gi_at_call 78; refine (CallsIn.inRound l (callsIn_wide.2 HCM.out)).mono ?_; rintro e w1 ⟨vt, vd, rfl, hc1, hv1, hv2⟩; obtain ⟨at', ct', rfl, -⟩ := hv1.read; obtain ⟨ad, nd, cd, rfl⟩ := hv2.slice; have HV1 := Lib.hid hv1; have HV2 := Lib.hid hv2; clear hv1 hv2; have hT1 := hT.later hc1; have cT := hT1.cell; have fT := hT1.free; have lT := hT1.lt)
   | (gi_at_builtin; refine wpListIn_append_own _ rfl (.tmp 18) (.tmp 20) 90 rfl w.heap.size 103 ir (.slice none 0 0) 1 24 Tryz.underlying90 ir1 ir2 ir3 ir4 rfl (by decide) _ _ _ rfl ((owns_later HO1.out hc1).alloc _) ⟨w1.heap.size, 0, none⟩ 1 1 [.slice at' (rtop r).length ct'] rfl rfl (by intro t u ht; match t, ht with | 0, ht => simp at ht; subst ht; simp [Addr.add]) (by intro u hu; simp at hu; subst hu; rfl) (by unfold maxLen; omega) (by omega) (by have := hB.size; have := hc1.size; simp; omega) ?_))
  intro v2 w2 hown2 hgrow2 _
  obtain ⟨g2, c2, rfl⟩ := ownsRow_succ hown2
  have k2 : Keep [103] w1 w2 := Keep.trans (Keep.of_below belA) (Keep.grown ((owns_later HO1.out hc1).alloc _) hgrow2)
  have K2 : Hid (Keep [103] W w2) := Lib.hid (Keep.trans (Keep.of_below hc1) k2)
  have hT2 := k2 _ _ _ (by decide) hT1
  replace cT := hT2.cell
  replace fT := hT2.free
  replace lT := hT2.lt
  have isT := hT2.isT
  have hbw1 : Below w.heap.size w w1 := hB.trans (hc1.mono hB.size)
  have hbw2 : Below w.heap.size w w2 := (Below_alloc hbw1 _).grown hgrow2 (by have := hbw1.size; simp; omega) (fun k hk => (HO1.out.lt k hk).1)
  have ko2 : KeepsOthers w1 w2 := (KeepsOthers.alloc _ _).trans (keeps_grown ((owns_later HO1.out hc1).alloc _) hgrow2)
  have hWw2 : Below w.heap.size W w2 := (Below.alloc (hc1.mono hB.size) hbw1.size _).grown hgrow2 (by have := hbw1.size; simp; omega) (fun k hk => (HO1.out.lt k hk).1)
  have HW2 := Lib.hid hown2
  have KV := Lib.hid k2
  have HO2' : Hid ((w2.setCell ⟨w.heap.size + 1, 0, none⟩ (.slice (some ⟨g2, 0, none⟩) (pre.length + 1) c2)).ownsRow w.heap.size 97 1 (.slice vb nb cb) pre.length bs) := Lib.hid (owns_kept (owns_kept HO2.out K2.out (by decide)) (Keep.setCell isT) (by decide))
  have szw2 := hbw2.size
  clear hown2 hgrow2 k2 hT1
  gi_wp2_with (gi_at_builtin; refine wpListIn_append_own _ rfl (.tmp 24) (.tmp 26) 91 rfl w.heap.size 97 im (.slice none 0 0) 1 24 Tryz.underlying91 im1 im2 im3 im4 rfl (by decide) _ _ _ rfl (HO2'.out.alloc _) ⟨w2.heap.size, 0, none⟩ 1 1 [.slice ad nd cd] rfl rfl (by intro t u ht; match t, ht with | 0, ht => (simp at ht; subst ht; exact ((Box.new_at (b := w2.heap.size) (by simp)).cell 0).trans rfl)) (by intro u hu; simp at hu; subst hu; rfl) (by unfold maxLen; omega) (by omega) (by simp; omega) ?_)
  intro v3 w3 hown3 hgrow3 _
  obtain ⟨g3, c3, rfl⟩ := ownsRow_succ hown3
  have k3 : Keep [97] (w2.setCell ⟨w.heap.size + 1, 0, none⟩ (.slice (some ⟨g2, 0, none⟩) (pre.length + 1) c2)) w3 := Keep.trans (Keep.of_below belA) (Keep.grown (HO2'.out.alloc _) hgrow3)
  have hT3 := k3 _ _ _ (by decide) (hT2.set 0 (.slice (some ⟨g2, 0, none⟩) (pre.length + 1) c2))
  replace cT := hT3.cell
  replace fT := hT3.free
  replace lT := hT3.lt
  have isT3 := hT3.isT
  have hbw3 : Below w.heap.size w w3 := (Below_alloc (hbw2.setCell (by simp) _) _).grown hgrow3 (by simp; omega) (fun k hk => (HO2'.out.lt k hk).1)
  have ko3 : KeepsOthers (w2.setCell ⟨w.heap.size + 1, 0, none⟩ (.slice (some ⟨g2, 0, none⟩) (pre.length + 1) c2)) w3 := (KeepsOthers.alloc _ _).trans (keeps_grown (HO2'.out.alloc _) hgrow3)
  have hWw3 : Below w.heap.size W w3 := (Below.alloc (hWw2.setCell (by simp) _) (by simp; omega) _).grown hgrow3 (by simp; omega) (fun k hk => (HO2'.out.lt k hk).1)
  have HW3 := Lib.hid hown3
  have K3 : Hid (Keep [97] (w2.setCell ⟨w.heap.size + 1, 0, none⟩ (.slice (some ⟨g2, 0, none⟩) (pre.length + 1) c2)) w3) := Lib.hid k3
  clear hown3 hgrow3 k3
  gi_wp2
  have hbz1 := Box.keep (hb0.later hc1) KV.out (by decide)
  have hbz2 := hbz1.setOther (.slice (some ⟨g2, 0, none⟩) (pre.length + 1) c2) (a := ⟨w.heap.size + 1, 0, none⟩) (by simp)
  have hbz3 := Box.keep hbz2 K3.out (by decide)
  have hbz := hbz3.setOther (.slice (some ⟨g3, 0, none⟩) (pre.length + 1) c3) (a := ⟨w.heap.size + 1, 1, none⟩) (by simp)
  refine ⟨((((keeps_of_below hc1).trans ko2).trans (KeepsOthers.setCell _ _ _)).trans ko3).trans (KeepsOthers.setCell _ _ _), hWw3.setCell (by simp) _, ⟨⟨_, _, _, _, _, _, xs ++ [.slice at' (rtop r).length ct'], bs ++ [.slice ad nd cd], hT3.set 1 _, ?_, ?_, ?_, ?_⟩, hbz⟩, hbw3.setCell (by simp) _⟩
  ·rw [List.length_append]
   exact owns_kept (owns_kept (owns_kept HW2.out (Keep.setCell isT) (by decide)) K3.out (by decide)) (Keep.setCell isT3) (by decide)
  ·rw [List.length_append]
   exact owns_kept HW3.out (Keep.setCell isT3) (by decide)
  ·have kk : Keep [103, 93, 97] w1 (w3.setCell ⟨w.heap.size + 1, 1, none⟩ (.slice (some ⟨g3, 0, none⟩) (pre.length + 1) c3)) :=
    (((KV.out.mono (by simp)).trans ((Keep.setCell isT).mono (by simp))).trans (K3.out.mono (by simp))).trans ((Keep.setCell isT3).mono (by simp))
   refine All2.snoc ((H4.out.mono fun _ _ h => h.later hc1).mono fun _ _ h => IntsV.kept h kk (by decide) (by decide)) ?_
   rw [HRR.out]
   exact IntsV.kept HV1.out kk (by decide) (by decide)
  ·have kk : Keep [103, 93, 97] w1 (w3.setCell ⟨w.heap.size + 1, 1, none⟩ (.slice (some ⟨g3, 0, none⟩) (pre.length + 1) c3)) :=
    (((KV.out.mono (by simp)).trans ((Keep.setCell isT).mono (by simp))).trans (K3.out.mono (by simp))).trans ((Keep.setCell isT3).mono (by simp))
   refine All2.snoc ((H5.out.mono fun _ _ h => h.later hc1).mono fun _ _ h => Fra.Mag.kept h kk (by decide)) ?_
   rw [HRR.out]
   exact Fra.Mag.kept HV2.out kk (by decide)
 case done =>
  rintro D ys W hD rfl ⟨⟨hI, hb0⟩, hB⟩ hK
  obtain ⟨va, na, ca, vb, nb, cb, xs, bs, hT, ho1, ho2, h4, h5⟩ := hI
  have cT := hT.cell
  have fT := hT.free
  have c0 := hb0.cell
  have f0 := hb0.free
  have is0 := hb0.isT
  have H4 := Lib.hid (all2_upto (R := fun zs r => IntsV W r zs) rtop m HLM.out h4)
  have H5 := Lib.hid (all2_upto (R := fun d r => Mag W r d) cden m HLM.out h5)
  have HO1 := Lib.hid (Row.of_owns ho1)
  have HO2 := Lib.hid (Row.of_owns ho2)
  have HFT := Lib.hid (freshT_owns (s := .slice vb nb cb) ho1)
  clear h4 h5 ho1 ho2
  gi_wp2
  have hK' := ((KeepsOthers.setCell W ⟨w.heap.size, 0, none⟩ (.slice va na ca)).trans (KeepsOthers.setCell _ ⟨w.heap.size, 1, none⟩ (.slice vb nb cb))).same D _ hK rfl
  refine ⟨by simp, .inl ⟨_, _, rfl, run_takeDeferred hK', ?_⟩⟩
  have hk5 : Keep [93] W (((W.setCell ⟨w.heap.size, 0, none⟩ (.slice va na ca)).setCell ⟨w.heap.size, 1, none⟩ (.slice vb nb cb)).putObj D (.deferred none)) :=
   ((Keep.setCell is0).trans (Keep.setCell is0.setCell)).trans ((Keep.others (grownBy_putObj' _ D (.deferred none)) (fun r e => by cases e; exact ⟨_, hK', rfl⟩)).mono (by simp))
  have hb3 := box_kept ((hb0.set 0 (.slice va na ca)).set 1 (.slice vb nb cb)) (grownBy_putObj' _ D (.deferred none)) (fun r e => by cases e; exact ⟨_, hK', rfl⟩)
  refine ⟨_, results_cell_row rfl _ _ w.heap.size 93 _ (0, 0) _ rfl hb3 Tryz.underlying93 rfl (by kernel_rfl), ⟨_, rfl, ?_, ⟨_, _, _, _, _, _, rfl, ⟨xs, Fra.Row.kept HO1.out hk5 (by decide), H4.out.mono fun _ _ h => IntsV.kept h hk5 (by decide) (by decide)⟩, ⟨bs, Fra.Row.kept HO2.out hk5 (by decide), H5.out.mono fun _ _ h => Fra.Mag.kept h hk5 (by decide)⟩⟩, HFT.out⟩⟩
  exact ((hB.setCell (by simp) _).setCell (by simp) _).trans (belowK_b (w := w) (Nat.le_refl _) _ D _ _ (by have := hB0.size; omega) hK' rfl rfl)
 case stop =>
  rintro D c pre W _ _ h _
  exact h.elim
theorem read_ok (v : Value) (m : RM) (w : World) (h : MatV w v m.fr) (hm : m.length ≤ 4) (hq : ∀ r ∈ m, r.length ≤ 4 ∧ ∀ q ∈ r, okq q = true) :
  Calls Tryz.prog 57 #[v] w fun e w' => ∃ v, e = .returned v ∧ Below w.heap.size w w' ∧ TabV w' v m :=
 (read_own v m w h hm hq).mono fun _ _ ⟨v, h1, h2, h3, _⟩ => ⟨v, h1, h2, h3⟩
end Go.Proofs.matrix
namespace Go.Proofs.matrix
open Go Go.RowKit Go.Shelf Go.SW Go.Num Go.Mem Go.Proofs Go.Dec Go.Fra
attribute [local go_sem] Oper.semAt_some
/-- Block g holds n fractions; those of D are done. -/
def FillP (w : World) (g : Nat) (T : TypeId) (n : Nat) (D : Nat → Prop) (f : Nat → Fr) : Prop :=
 ∃ arr, Box w g arr T ∧ arr.size = n * 2 ∧ ∀ i, i < n → D i → arr[i * 2]? = some (.string (f i).n) ∧ arr[i * 2 + 1]? = some (.string (f i).d)
theorem FillP.kept {w w' : World} {g : Nat} {T : TypeId} {n : Nat} {D : Nat → Prop} {f : Nat → Fr} (h : FillP w g T n D f) (k : Keep [] w w') : FillP w' g T n D f := by
 obtain ⟨arr, h1, h2⟩ := h
 exact ⟨arr, k _ _ _ (by simp) h1, h2⟩
theorem FillP.cells {w : World} {g : Nat} {T : TypeId} {n j : Nat} {D : Nat → Prop} {f : Nat → Fr} (h : FillP w g T n D f) (hj : j < n) :
  (∃ x, w.cell? ⟨g, j * 2, none⟩ = some x) ∧ (∃ y, w.cell? ⟨g, j * 2 + 1, none⟩ = some y) ∧ (∀ o, w.frozen? ⟨g, o, none⟩ = false) ∧ g < w.heap.size := by
 obtain ⟨arr, h1, h2, h3⟩ := h
 refine ⟨⟨arr[j * 2]'(by omega), ?_⟩, ⟨arr[j * 2 + 1]'(by omega), ?_⟩, h1.free, h1.lt⟩
 ·rw [h1.cell]; exact Array.getElem?_eq_getElem _
 ·rw [h1.cell]; exact Array.getElem?_eq_getElem _
theorem FillP.put {w : World} {g n j : Nat} {T : TypeId} {D D' : Nat → Prop} {f : Nat → Fr} {s t : ByteArray} (h : FillP w g T n D f) (hj : j < n) (hs : s = (f j).n) (ht : t = (f j).d) (hD : ∀ i, D' i → i = j ∨ D i) :
  FillP ((w.setCell ⟨g, j * 2, none⟩ (.string s)).setCell ⟨g, j * 2 + 1, none⟩ (.string t)) g T n D' f := by
 subst hs ht
 obtain ⟨arr, h1, h2, h3⟩ := h
 refine ⟨(arr.setIfInBounds (j * 2) (.string (f j).n)).setIfInBounds (j * 2 + 1) (.string (f j).d), (h1.set _ _).set _ _, by simp [h2], fun i hi hd => ?_⟩
 by_cases e : i = j
 ·subst e
  refine ⟨?_, ?_⟩
  ·rw [Array.getElem?_setIfInBounds, if_neg (by omega), Array.getElem?_setIfInBounds, if_pos rfl, if_pos (by omega)]
  ·rw [Array.getElem?_setIfInBounds, if_pos rfl, if_pos (by simp; omega)]
 ·obtain ⟨k1, k2⟩ := h3 i hi ((hD i hd).resolve_left e)
  refine ⟨?_, ?_⟩
  ·rw [Array.getElem?_setIfInBounds, if_neg (by omega), Array.getElem?_setIfInBounds, if_neg (by omega), k1]
  ·rw [Array.getElem?_setIfInBounds, if_neg (by omega), Array.getElem?_setIfInBounds, if_neg (by omega), k2]
theorem FillP.start {w : World} {base g n : Nat} {T : TypeId} {z : Array Value} {f : Nat → Fr} (h : w.ownsRow base T 2 (.slice (some ⟨g, 0, none⟩) n n) n (madeCells z (n * 2)).toList) : FillP w g T n (fun _ => False) f := by
 obtain ⟨arr, h1, h2, -⟩ := Fill.start (ok := FrC f) h
 exact ⟨arr, h1, h2, fun i _ h => h.elim⟩
theorem FillP.frs {w : World} {g n : Nat} {T : TypeId} {D : Nat → Prop} {l : List Fr} (h : FillP w g T n D (fun i => l.getD i Fr.no)) (hD : ∀ i, i < n → D i) (hn : l.length = n) (hl : n ≤ 1000000) : Frs w T (.slice (some ⟨g, 0, none⟩) n n) l := by
 obtain ⟨arr, h1, h2, h3⟩ := h
 refine Fill.frs ⟨arr, h1, h2, fun i hi => ?_⟩ hn hl
 obtain ⟨k1, k2⟩ := h3 i hi (hD i hi)
 exact ⟨_, _, k1, k2, rfl, rfl⟩
theorem getD_lt {α : Type} {l : List α} {c : Nat} {d : α} (h : c < l.length) : l.getD c d = l[c] := by simp [h]
/-- Column c. -/
def colM (m : List (List Fr)) (c : Nat) : List Fr := m.map fun r => r.getD c Fr.no
theorem FillP.start2 {w : World} {g n : Nat} {T : TypeId} {cs : Array Value} {f : Nat → Fr} (h : Box w g cs T) (hs : cs.size = n * 2) : FillP w g T n (fun _ => False) f := ⟨cs, h, hs, fun i _ h => h.elim⟩
theorem made_frs (n : Nat) (hn : n ≤ 1000) : ∃ cs : Array Value, cs.size = n * 2 ∧ ∀ W : World, (Instr.makeSlice 56 (.int .i64 (n : Int)) (.int .i64 (n : Int))).run Tryz.prog W = .ok (.slice (some ⟨W.heap.size, 0, none⟩) n n) (W.alloc (.cells cs 36)) := by
 obtain ⟨i0, hi, hz0, hz1, hz2⟩ := info_parts infoFr
 refine ⟨madeCells (Value.agg #[.string ⟨#[]⟩, .string ⟨#[]⟩]).cells (n * 2), size_madeCells _ _, fun W => ?_⟩
 have := run_makeSlice (P := Tryz.prog) W 56 36 i0 (.agg #[.string ⟨#[]⟩, .string ⟨#[]⟩]) Tryz.underlying56 hi hz0 .i64 .i64 (n : Int) (n : Int) (by omega) (Int.le_refl _) (by rw [hz1]; simp; omega) (by rw [hz2]; omega) (by omega)
 rw [hz1] at this
 simpa using this
set_option maxRecDepth 100000 in
set_option maxHeartbeats 2000000 in
theorem transposed1_ok (bm c : Nat) (v : Value) (m : List (List Fr)) (w : World) (h : MatV w v m) (hb : Box w bm #[v] 44) (hm : m.length ≤ 4) (hc : ∀ r ∈ m, c < r.length) :
  Calls Tryz.prog 126 #[.int .i64 (c : Int), .pointer (some ⟨bm, 0, none⟩)] w (fun e w' => ∃ v', e = .returned v' ∧ Below w.heap.size w w' ∧ Frs w' 36 v' (colM m c)) := by
 obtain ⟨i0, hi, hz0, hz1, hz2⟩ := info_parts infoFr
 obtain ⟨rs, hR, hlen, hF⟩ := h
 obtain ⟨f, Ef⟩ : ∃ f : Nat → Fr, Hid ((fun i => (colM m c).getD i Fr.no) = f) := ⟨_, Lib.hid rfl⟩
 have HFR : Hid (∀ i (h : i < rs.length), Frs w 36 rs[i] (m.getD i []) ∧ c < (m.getD i []).length ∧ f i = (m.getD i []).getD c Fr.no) := Lib.hid fun i hi => by
  have him : i < m.length := by omega
  have e : m.getD i [] = m[i] := by simp [him]
  rw [e]
  exact ⟨hF i hi him, hc _ (List.getElem_mem _), by rw [← Ef.out]; simp [colM, him]⟩
 have HCL : Hid ((colM m c).length = rs.length) := Lib.hid (by rw [hlen]; simp [colM])
 have HR := Lib.hid hR
 obtain ⟨a, cap, rfl, -⟩ := hR
 have HLM : Hid (rs.length ≤ 4) := Lib.hid (by omega)
 have hl4 : rs.length ≤ 4 := by omega
 have cbm := hb.cell
 have lbm := hb.lt
 have lbm1 : bm < w.heap.size + 1 := by omega
 have lbm2 : bm < w.heap.size + 1 + 1 := by omega
 have HBM := Lib.hid hb
 clear hF hlen hc hb
 refine (callsIn_wide (n := 3)).1 ?_
 refine callsIn_of_wp_marks Tryz.func126 rfl trivial ?_ rfl
 simp only [Tryz.ntmps126, List.size_toArray, List.length_cons, List.length_nil, Nat.reduceAdd, Nat.reduceSub, Array.replicate_succ, Array.replicate_zero, List.push_toArray, List.append_toArray, List.nil_append, List.cons_append]
 obtain ⟨cs, hcs, hmk⟩ := made_frs rs.length (by omega)
 have HCS := Lib.hid hcs
 clear hcs
 gi_wp2_with (refine ⟨trivial, ?_⟩; gi_at_call 112; refine (visit_in Fence.wide 2 trivial rfl _ _ _ _).mono ?_; rintro e w' ⟨rfl, rfl⟩)
 clear hmk
 obtain ⟨W0, hW0⟩ : ∃ W0, (((w.alloc (.cells #[.int .i64 (c : Int)] 3)).alloc (.cells cs 36)).alloc (.cells #[.slice (some ⟨w.heap.size + 1, 0, none⟩) rs.length rs.length] 56)).alloc (.cells #[.slice a rs.length cap] 44) = W0 := ⟨_, rfl⟩
 have hB0 : Below w.heap.size w W0 := by rw [← hW0]; exact belA
 have hbx0 : Box W0 w.heap.size #[.int .i64 (c : Int)] 3 := by rw [← hW0]; exact boxA
 have hbx1 : Box W0 (w.heap.size + 1) cs 36 := by rw [← hW0]; exact boxA
 have hbx2 : Box W0 (w.heap.size + 1 + 1) #[.slice (some ⟨w.heap.size + 1, 0, none⟩) rs.length rs.length] 56 := by rw [← hW0]; exact boxA
 have hbx3 : Box W0 (w.heap.size + 1 + 1 + 1) #[.slice a rs.length cap] 44 := by rw [← hW0]; exact Box.at3 _ _ _ _ _ _
 rw [hW0]
 clear hW0 cbm
 refine wpIn_rangeFunc_ownF (α := Fin rs.length) rfl (by omega) (gf := 164) (lb := #[.pointer (some ⟨w.heap.size + 1 + 1 + 1, 0, none⟩)]) rfl trivial (enters_of Tryz.func164 (by kernel_rfl) rfl)
  (visit_stops Fence.wide 2 trivial rfl (by omega) (w.heap.size + 1 + 1 + 1) w.heap.size _ rs w _ hbx3.lt hB0.size ((hbx3.cell 0).trans rfl) HR.out (Nat.le_refl _) hB0) belowK_t (belowK_b hB0.size) (Below.refl _ _) (fun _ => rfl)
  (fun pre W => (FillP W (w.heap.size + 1) 36 rs.length (fun i => ∃ x ∈ pre, x.1 = i) f ∧ Box W w.heap.size #[.int .i64 (c : Int)] 3 ∧ Box W (w.heap.size + 1 + 1) #[.slice (some ⟨w.heap.size + 1, 0, none⟩) rs.length rs.length] 56) ∧ Below w.heap.size w W)
  (fun _ _ _ => False)
  (OwnFrom.and (Own.from (fun s A B row hs hg hr => ⟨hs.1.kept (Keep.others hg hr), box_kept hs.2.1 hg hr, box_kept hs.2.2 hg hr⟩) _) (ownFrom_below (Nat.le_refl _) hB0.size))
  (fun _ _ _ _ _ hs _ _ => hs)
  ⟨⟨?f0, hbx0, hbx2⟩, hB0⟩ ?a1 ?assign ?body ?done ?stop
 case f0 =>
  obtain ⟨arr, k1, k2, k3⟩ := FillP.start2 (f := f) hbx1 HCS.out
  exact ⟨arr, k1, k2, fun i hi ⟨x, hx, _⟩ => by cases hx⟩
 case assign =>
  intro l x W K hK
  unfold enc
  gi_wp2
  exact hK
 case body =>
  rintro l pre x W ⟨⟨hF, hb0, hb2⟩, hB⟩ hpl
  obtain ⟨hfr, hcl, hcol⟩ := HFR.out x.1 x.2
  obtain ⟨a', cap', hre, hcc1, hcc2, hread⟩ := hfr.read
  obtain ⟨b, off, rfl, lb, hx1, hx2⟩ := hread c hcl
  have cx1 := (hB.cell (p := ⟨b, off + c * 2, none⟩) lb).trans hx1
  have cx2 := (hB.cell (p := ⟨b, off + c * 2 + 1, none⟩) lb).trans hx2
  have hgd : (m.getD x.1 [])[c] = f x.1 := (hcol.trans (getD_lt hcl)).symm
  rw [hgd] at cx1 cx2
  have c0 := hb0.cell
  have c2 := hb2.cell
  have lbW := Nat.lt_of_lt_of_le lb hB.size
  have hxr := x.2
  have HF := Lib.hid hF
  obtain ⟨s1, Es1⟩ : ∃ s : ByteArray, Hid ((f x.1).n = s) := ⟨_, Lib.hid rfl⟩
  obtain ⟨s2, Es2⟩ : ∃ s : ByteArray, Hid ((f x.1).d = s) := ⟨_, Lib.hid rfl⟩
  rw [Es1.out] at cx1
  rw [Es2.out] at cx2
  clear hfr hcol hread hx1 hx2 hgd hF
  generalize rs[x.1] = rx at *
  subst hre
  generalize (m.getD x.1 []).length = n' at *
  refine wpIn_block ?_
  refine wpIn_region_walk [(.read, 0), (.pure, 1), (.pure, 2), (.read, 3), (.pure, 4), (.read, 5), (.pure, 6), (.fin, 7)] (by kernel_rfl) (by kernel_rfl) (by kernel_rfl) (allocRuns_of (by kernel_rfl)) (fun ⟨_, _, h⟩ => h) (fun _ _ _ _ _ h => h) ?_
  repeat (first | (refine walk_pure0 rfl rfl (fun J hJ => ?_); go_simp; refine hJ _ ?_; clear hJ J) | (refine walk_load rfl rfl rfl rfl (fun J hJ => ?_); go_simp; refine hJ _ ?_; clear hJ J; try go_simp))
  refine walk_fin [_] rfl (fun w2 hbd => ?_)
  have hb2' : Below W.heap.size W w2 := below_trans (Below.drew (Below.refl _ _)) hbd
  have hF2 := HF.out.kept (Keep.of_below hb2')
  have HF2 := Lib.hid hF2
  obtain ⟨⟨y1, cy1⟩, ⟨y2, cy2⟩, fy, ly⟩ := hF2.cells hxr
  have hb0' := hb0.later hb2'
  have hb2c := Box.later hb2 hb2'
  clear hF2
  go_wp2_with fail
  refine ⟨((keeps_of_below hb2').trans (KeepsOthers.setCell _ _ _)).trans (KeepsOthers.setCell _ _ _), ((hb2'.mono hB.size).setCell (by simp) _).setCell (by simp) _, ⟨HF2.out.put hxr Es1.out.symm Es2.out.symm ?_, (hb0'.setOther _ (by simp)).setOther _ (by simp), (hb2c.setOther _ (by simp)).setOther _ (by simp)⟩, ((hB.trans (hb2'.mono hB.size)).setCell (by simp) _).setCell (by simp) _⟩
  rintro i ⟨y, hy, rfl⟩
  rcases List.mem_append.1 hy with h | h
  ·exact .inr ⟨y, h, rfl⟩
  ·rw [List.mem_singleton] at h
   exact .inl (by rw [h])
 case done =>
  rintro D ys W hD rfl ⟨⟨hF, hb0, hb2⟩, hB⟩ hK
  have c2 := hb2.cell
  have HF := Lib.hid hF
  clear hF
  gi_wp2
  refine ⟨by simp, .inl ⟨_, _, rfl, run_takeDeferred hK, ?_⟩⟩
  have hF2 := HF.out.kept (Keep.others (grownBy_putObj' _ D (.deferred none)) (fun r e => by cases e; exact ⟨_, hK, rfl⟩))
  refine ⟨.slice (some ⟨w.heap.size + 1, 0, none⟩) rs.length rs.length, ?_, _, rfl, hB.trans (belowK_b (w := w) (Nat.le_refl _) W D _ _ (by have := hB0.size; omega) hK rfl rfl), ?_⟩
  ·simp [results, Tryz.f126, go_sem]
  ·rw [← Ef.out] at hF2
   exact hF2.frs (fun i hi => ⟨⟨i, hi⟩, by unfold upto; rw [List.mem_ofFn]; exact ⟨⟨i, hi⟩, rfl⟩, rfl⟩) HCL.out (by have := HLM.out; omega)
 case stop =>
  rintro D c pre W _ _ h _
  exact h.elim
/-- How a matrix is read: its place and its first row. -/
theorem MatV.first {w : World} {v : Value} {m : List (List Fr)} (h : MatV w v m) (h0 : 0 < m.length) :
  ∃ b off cap a0 cap0, v = .slice (some ⟨b, off, none⟩) m.length cap ∧ m.length ≤ cap ∧ b < w.heap.size ∧ w.cell? ⟨b, off, none⟩ = some (.slice a0 (m.headD []).length cap0) := by
 obtain ⟨rs, hR, hlen, hF⟩ := h
 rcases hR.cases with ⟨rfl, rfl⟩ | ⟨b, off, cap, arr, rfl, k1, k2, k3, k4⟩
 ·simp at hlen; omega
 ·have h0r : 0 < rs.length := by omega
  obtain ⟨a0, cap0, e0, -⟩ := (hF 0 h0r (by omega)).read
  refine ⟨b, off, cap, a0, cap0, by rw [hlen], by omega, k3.lt, ?_⟩
  have := (k3.cell (off + 0)).trans (k4 0 h0r)
  rw [e0] at this
  cases m with
  | nil => simp at h0
  | cons r t => simpa using this
theorem made_mat (n : Nat) (hn : n ≤ 1000) : ∃ cs : Array Value, cs.size = n ∧ ∀ W : World, (Instr.makeSlice 44 (.int .i64 (n : Int)) (.int .i64 (n : Int))).run Tryz.prog W = .ok (.slice (some ⟨W.heap.size, 0, none⟩) n n) (W.alloc (.cells cs 56)) := by
 obtain ⟨i0, hi, hz0, hz1, hz2⟩ := info_parts infoMr
 refine ⟨madeCells (Value.slice none 0 0).cells n, size_madeCells _ _, fun W => ?_⟩
 have := run_makeSlice (P := Tryz.prog) W 44 56 i0 (.slice none 0 0) Tryz.underlying44 hi hz0 .i64 .i64 (n : Int) (n : Int) (by omega) (Int.le_refl _) (by rw [hz1]; simp; omega) (by rw [hz2]; omega) (by omega)
 rw [hz1] at this
 simpa using this
theorem MFill.start2 {w : World} {g n : Nat} {cs : Array Value} {f : Nat → List Fr} (h : Box w g cs 56) (hs : cs.size = n) : MFill w g n 0 f := ⟨cs, h, hs, fun i h => by omega⟩
/-- The matrix with rows and columns exchanged. -/
def transM (m : List (List Fr)) (n : Nat) : List (List Fr) := (List.range n).map (colM m)
set_option maxRecDepth 100000 in
set_option maxHeartbeats 2000000 in
theorem transposed_ok (v : Value) (m : List (List Fr)) (n : Nat) (w : World) (h : MatV w v m) (h1 : 1 ≤ m.length) (h4 : m.length ≤ 4) (n4 : n ≤ 4) (hn : ∀ r ∈ m, r.length = n) :
  Calls Tryz.prog 66 #[v] w (fun e w' => ∃ v', e = .returned v' ∧ Below w.heap.size w w' ∧ MatV w' v' (transM m n)) := by
 obtain ⟨b, off, cap, a0, cap0, rfl, hcap, lb, hc0⟩ := MatV.first h (by omega)
 have hhd : (m.headD []).length = n := by
  cases m with
  | nil => simp at h1
  | cons r t => exact hn r (by simp)
 rw [hhd] at hc0
 have HT := Lib.hid (fun bm c w' (hb : Below w.heap.size w w') (hc : c < n) (hx : Box w' bm #[.slice (some ⟨b, off, none⟩) m.length cap] 44) => transposed1_ok bm c _ m w' (h.later hb) hx h4 (fun r hr => by rw [hn r hr]; exact hc))
 obtain ⟨cs, hcs, hmk⟩ := made_mat n (by omega)
 have HCS := Lib.hid hcs
 have lb1 : b < w.heap.size + 1 := by omega
 have hmf : ∀ (fn : Fn) (first cap : Array Value) (w : World), (Instr.makeFunc fn first cap).run Tryz.prog w = .ok (.func fn first cap) w := fun _ _ _ _ => rfl
 have h0m : 0 < m.length := by omega
 have HN4 := Lib.hid n4
 clear h hn hcs
 go_enter Tryz.func66, Tryz.ntmps66
 go_wp2_with fail
 obtain ⟨W0, hW0⟩ : ∃ W0, (w.alloc (.cells #[.slice (some ⟨b, off, none⟩) m.length cap] 44)).alloc (.cells cs 56) = W0 := ⟨_, rfl⟩
 have hB0 : Below w.heap.size w W0 := by rw [← hW0]; exact belA
 have HX0 : Hid (Box W0 w.heap.size #[.slice (some ⟨b, off, none⟩) m.length cap] 44) := Lib.hid (by rw [← hW0]; exact boxA)
 have hbx1 : Box W0 (w.heap.size + 1) cs 56 := by rw [← hW0]; exact boxA
 have HM := Lib.hid (MFill.start2 (f := colM m) hbx1 HCS.out)
 rw [hW0]
 clear hW0 hbx1 hmk
 go_loopw [14] (fun iv wr => ∃ c : Nat, iv = .int .i64 (c : Int) ∧ c ≤ n ∧ Hid (MFill wr (w.heap.size + 1) n c (colM m)) ∧ Hid (Box wr w.heap.size #[.slice (some ⟨b, off, none⟩) m.length cap] 44) ∧ Below w.heap.size w wr) (fun iv _ => n - (intOf iv).toNat)
 case atStart => exact ⟨0, rfl, by omega, HM, HX0, hB0⟩
 case round =>
  clear HM HX0 hB0
  obtain ⟨c, rfl, hcn, HM, HX, hb⟩ := hrel
  have lM := HM.out.lt
  rcases Nat.lt_or_ge c n with hlt | hge
  ·have hlt2 : (c : Int) < (n : Int) := by omega
   go_wp2_with fail
   refine (HT.out _ c _ hb hlt HX.out).mono ?_
   rintro e w2 ⟨v', rfl, hc2, hfr⟩
   obtain ⟨a', cap', rfl, -⟩ := hfr.read
   have HFR := Lib.hid hfr
   have hM2 := HM.out.later hc2
   obtain ⟨⟨y1, cy1⟩, fy⟩ := hM2.cell hlt
   have HM2 := Lib.hid hM2
   have lM2 := hM2.lt
   have isM := hM2.isT
   have hx2 := HX.out.later hc2
   clear hM2 hfr
   go_wp2_with fail
   go_roundw
   case rel =>
    refine ⟨c + 1, by go_num, by omega, Lib.hid (HM2.out.step hlt ((Near.refl w2 _).set c _) (fun arr hA => hA.set c _) (HFR.out.kept (Keep.setCell isM) (by decide))), Lib.hid (hx2.setOther _ (by simp)), (Bt hb hc2).setCell (by simp) _⟩
   case measure => simp [intOf]; omega
  ·have hnc : n = c := by omega
   subst hnc
   have hmv : MatV wr (.slice (some ⟨w.heap.size + 1, 0, none⟩) n n) (transM m n) := by
    have e1 : (transM m n).length = n := by simp [transM]
    have : MatV wr (.slice (some ⟨w.heap.size + 1, 0, none⟩) (transM m n).length (transM m n).length) (transM m n) := by
     refine MFill.matV ?_ (by have := HN4.out; omega)
     rw [e1]
     obtain ⟨arr, k1, k2, k3⟩ := HM.out
     refine ⟨arr, k1, k2, fun i hi => ?_⟩
     have e2 : (transM m n).getD i [] = colM m i := by simp [transM, hi]
     show ∃ v, arr[i]? = some v ∧ Frs wr 36 v ((transM m n).getD i [])
     rw [e2]
     exact k3 i hi
    rw [e1] at this
    exact this
   have HMV := Lib.hid hmv
   clear hmv
   go_wp2_with fail
   go_ret
   exact ⟨_, rfl, hb, HMV.out⟩
end Go.Proofs.matrix
