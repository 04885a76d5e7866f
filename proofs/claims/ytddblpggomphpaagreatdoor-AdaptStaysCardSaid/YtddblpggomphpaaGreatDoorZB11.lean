/- Lemmas for the proof. No condition. -/
import Derived.Test.YtddblpggomphpaaGreatDoorZB10
import Derived.Test.YtddblpggomphpaaGreatDoorRows
import Derived.ProofKit
import Derived.LaidMore
import Derived.OpenShut
import Derived.Stop.Joined
import Derived.Stop.LaidErr
import Derived.Lib.LaidTab
import Derived.ChangeSame
import Derived.Laws.IdiomArrays
set_option linter.unusedVariables false
set_option linter.unusedSimpArgs false
namespace Go.Proofs.adapt
open Go Go.RowKit Go.SW Go.Num Go.Mem Go.Proofs Go.Dec Go.Fra
def qF (a : Fr) : Rat := (rd a).getD 0
def qT (t : light.Tri) (i : Nat) : Rat := qF (t.get i)
theorem qF_of {a : Fr} (h : (rd a).isSome = true) : a = Fr.of (qF a) ∧ okq (qF a) = true := by
 cases hr : rd a with
 | none => rw [hr] at h; cases h
 | some q =>
  have := of_rd hr
  unfold qF
  rw [hr]
  exact this
theorem qT_of {t : light.Tri} (h : chkL t.list = 0) : t = tri3 (qT t) ∧ all3 (qT t) = true := by
 unfold chkL at h
 split at h
 ·rename_i hh
  simp only [light.Tri.list, List.all_cons, List.all_nil, Bool.and_true, Bool.and_eq_true] at hh
  obtain ⟨h1, h2, h3⟩ := hh
  obtain ⟨e1, k1⟩ := qF_of h1
  obtain ⟨e2, k2⟩ := qF_of h2
  obtain ⟨e3, k3⟩ := qF_of h3
  obtain ⟨x, y, z⟩ := t
  refine ⟨?_, ?_⟩
  ·show (⟨x, y, z⟩ : light.Tri) = ⟨Fr.of (qF x), Fr.of (qF y), Fr.of (qF z)⟩
   rw [← e1, ← e2, ← e3]
  ·show (okq (qF x) && okq (qF y) && okq (qF z)) = true
   rw [k1, k2, k3]
   rfl
 ·cases h
theorem sndT_chk {t : light.Tri} (h : light.sndT t = 0) : chkL t.list = 0 := by
 have h1 : light.chkT t = 0 := by
  unfold light.sndT at h
  by_cases hc : light.chkT t = 0
  ·exact hc
  ·simp [hc] at h
 unfold light.chkT at h1
 by_cases hc : chkL t.list = 0
 ·exact hc
 ·rw [if_neg hc] at h1; cases h1
theorem coneR_ok (m : Nat) (hm : m < 4) : (coneR m).ok 3 := by
 refine ⟨by show 1 ≤ 3; omega, by show 3 ≤ 4; omega, by omega, by omega, fun r hr => ?_⟩
 obtain ⟨i, hi, rfl⟩ := List.mem_map.1 hr
 refine ⟨by simp, fun q hq => ?_⟩
 obtain ⟨j, hj, rfl⟩ := List.mem_map.1 hq
 exact coneQ_ok m hm i (List.mem_range.1 hi) j (List.mem_range.1 hj)
def respQ (k : Int) (t : light.Tri) : Nat → Rat := seenQ (coneR (k - 1).toNat) (qT t)
def gainsQ (k : Int) (a b : light.Tri) (d : Fr) (i : Nat) : Rat := gainQ (qF d) (respQ k a i) (respQ k b i)
/-- The error of the gains' arguments. -/
def argsE (k : Int) (a b : light.Tri) (d : Fr) : Int :=
 if coneE k ≠ 0 then coneE k else if light.sndT a ≠ 0 then light.sndT a else if light.sndT b ≠ 0 then light.sndT b else if chk d ≠ 0 then chk d
 else if cmpq (qF d) 0 < 0 ∨ 0 < cmpq (qF d) 1 then 2 else 0
def gainsE (k : Int) (a b : light.Tri) (d : Fr) : Int :=
 if argsE k a b d ≠ 0 then argsE k a b d
 else if all3 (respQ k a) = false then 6 else if all3 (respQ k b) = false then 6 else if zero3 (respQ k a) then 7
 else if gainOk (qF d) (respQ k a 0) (respQ k b 0) && gainOk (qF d) (respQ k a 1) (respQ k b 1) && gainOk (qF d) (respQ k a 2) (respQ k b 2) then 0 else 6
set_option maxRecDepth 100000 in
set_option maxHeartbeats 8000000 in
theorem gains_ok (k : Int) (a b : light.Tri) (d : Fr) (w : World) (ht : Bld.Pow w) (hc : Cones w) :
  Calls Tryz.prog 36 #[.int .i64 k, a.v, b.v, d.v] w (TryPost w (gainsE k a b d) (fun v _ => v = (tri3 (gainsQ k a b d)).v)) := by
 have HCO := Lib.hid (fun w' hb => Cone_ok k w' (ht.later hb) (hc.later hb))
 have HSA := Lib.hid (fun w' => light.Sound_ok a w')
 have HSB := Lib.hid (fun w' => light.Sound_ok b w')
 have HCK := Lib.hid (fun w' => frac.check_ok d w')
 have HOF := Lib.hid (fun w' hb => frac.Of_ok 1 1 (by omega) (by omega) (by omega) (by omega) w' (ht.later hb))
 have h11 : Fr.res (ofF 1 1) = .tuple #[(Fr.of 1).v, .int .i64 0] := by
  unfold ofF
  rw [if_neg (by decide)]
  have e : ((1 : Int) : Rat) / ((1 : Int) : Rat) = 1 := by decide +kernel
  rw [e]
  unfold Fra.wr
  rw [if_pos (by decide +kernel)]
  rfl
 rw [h11] at HOF
 have HSG : Hid (chk d = 0 → ∀ w', Calls Tryz.prog 83 #[d.v] w' (fun e w'' => e = .returned (.tuple #[.int .i64 (cmpq (qF d) 0), .int .i64 0]) ∧ Below w'.heap.size w' w'')) := Lib.hid fun h w' => by
  have hs : (rd d).isSome = true := by
   unfold chk at h
   split at h
   ·assumption
   ·cases h
  obtain ⟨e1, e2⟩ := qF_of hs
  have := frac.Sign_ok d w'
  have e3 : sgnF d = (cmpq (qF d) 0, 0) := by
   conv => lhs; rw [e1]
   exact sgnF_of e2
  rw [e3] at this
  exact this
 have HCM : Hid (chk d = 0 → ∀ w', Calls Tryz.prog 32 #[d.v, (Fr.of 1).v] w' (fun e w'' => e = .returned (.tuple #[.int .i64 (cmpq (qF d) 1), .int .i64 0]) ∧ Below w'.heap.size w' w'')) := Lib.hid fun h w' => by
  have hs : (rd d).isSome = true := by
   unfold chk at h
   split at h
   ·assumption
   ·cases h
  obtain ⟨e1, e2⟩ := qF_of hs
  have := frac.Cmp_ok d (Fr.of 1) w'
  have e3 : cmpF d (Fr.of 1) = (cmpq (qF d) 1, 0) := by
   conv => lhs; rw [e1]
   unfold cmpF
   rw [rd_of e2, rd_of (show okq 1 = true by decide +kernel)]
  rw [e3] at this
  exact this
 have HDD : Hid (chk d = 0 → d = Fr.of (qF d) ∧ okq (qF d) = true) := Lib.hid fun h => qF_of (by
   unfold chk at h
   split at h
   ·assumption
   ·cases h)
 have HSEa : Hid (light.sndT a = 0 → ∀ va w', Below w.heap.size w w' → MatV w' va (coneR (k - 1).toNat).fr → coneE k = 0 → Calls Tryz.prog 84 #[va, a.v] w' (TryPost w' (if all3 (respQ k a) then 0 else 6) (fun v _ => v = (tri3 (respQ k a)).v))) := Lib.hid fun h va w' hb hv hk => by
  obtain ⟨e1, e2⟩ := qT_of (sndT_chk h)
  have hm : (k - 1).toNat < 4 := by
   unfold coneE at hk
   by_cases h : k < 1 ∨ 4 < k
   ·rw [if_pos h] at hk; cases hk
   ·omega
  have := seen_ok va (coneR (k - 1).toNat) (qT a) w' hv (coneR_ok _ hm) rfl e2 (ht.later hb)
  rw [← e1] at this
  exact this
 have HSEb : Hid (light.sndT b = 0 → ∀ va w', Below w.heap.size w w' → MatV w' va (coneR (k - 1).toNat).fr → coneE k = 0 → Calls Tryz.prog 84 #[va, b.v] w' (TryPost w' (if all3 (respQ k b) then 0 else 6) (fun v _ => v = (tri3 (respQ k b)).v))) := Lib.hid fun h va w' hb hv hk => by
  obtain ⟨e1, e2⟩ := qT_of (sndT_chk h)
  have hm : (k - 1).toNat < 4 := by
   unfold coneE at hk
   by_cases h : k < 1 ∨ 4 < k
   ·rw [if_pos h] at hk; cases hk
   ·omega
  have := seen_ok va (coneR (k - 1).toNat) (qT b) w' hv (coneR_ok _ hm) rfl e2 (ht.later hb)
  rw [← e1] at this
  exact this
 have HT := Lib.hid ht
 obtain ⟨fa, Efa⟩ : ∃ y, Hid (respQ k a = y) := ⟨_, Lib.hid rfl⟩
 obtain ⟨fb, Efb⟩ : ∃ y, Hid (respQ k b = y) := ⟨_, Lib.hid rfl⟩
 obtain ⟨qd, Eqd⟩ : ∃ y, Hid (qF d = y) := ⟨_, Lib.hid rfl⟩
 obtain ⟨sa, Esa⟩ : ∃ y, Hid (light.sndT a = y) := ⟨_, Lib.hid rfl⟩
 obtain ⟨sb, Esb⟩ : ∃ y, Hid (light.sndT b = y) := ⟨_, Lib.hid rfl⟩
 obtain ⟨ck, Eck⟩ : ∃ y, Hid (chk d = y) := ⟨_, Lib.hid rfl⟩
 obtain ⟨ce, Ece⟩ : ∃ y, Hid (coneE k = y) := ⟨_, Lib.hid rfl⟩
 have hea : argsE k a b d = if ce ≠ 0 then ce else if sa ≠ 0 then sa else if sb ≠ 0 then sb else if ck ≠ 0 then ck else if cmpq qd 0 < 0 ∨ 0 < cmpq qd 1 then 2 else 0 := by
  unfold argsE
  rw [Ece.out, Esa.out, Esb.out, Eck.out, Eqd.out]
 have her : gainsE k a b d = if argsE k a b d ≠ 0 then argsE k a b d else if all3 fa = false then 6 else if all3 fb = false then 6 else if zero3 fa then 7 else if gainOk qd (fa 0) (fb 0) && gainOk qd (fa 1) (fb 1) && gainOk qd (fa 2) (fb 2) then 0 else 6 := by
  unfold gainsE
  rw [Efa.out, Efb.out, Eqd.out]
 have hg : gainsQ k a b d = fun i => gainQ qd (fa i) (fb i) := by
  funext i
  unfold gainsQ
  rw [Efa.out, Efb.out, Eqd.out]
 rw [hg]
 obtain ⟨er, Eer⟩ : ∃ y, Hid (gainsE k a b d = y) := ⟨_, Lib.hid rfl⟩
 obtain ⟨ea, Eea⟩ : ∃ y, Hid (argsE k a b d = y) := ⟨_, Lib.hid rfl⟩
 rw [Eer.out] at her ⊢
 rw [Eea.out] at her hea
 have HEA := Lib.hid hea
 have HER := Lib.hid her
 rw [Efa.out] at HSEa
 rw [Efb.out] at HSEb
 rw [Eqd.out] at HSG HCM HDD
 rw [Esa.out] at HSA HSEa
 rw [Esb.out] at HSB HSEb
 rw [Eck.out] at HCK HSG HCM HDD
 rw [Ece.out] at HCO HSEa HSEb
 have HEG : Hid (ea ≠ 0 → er = ea) := Lib.hid fun h => by rw [HER.out, if_pos h]
 have HCK2 := HCK
 clear hea her hg h11 Efa Efb Eqd Esa Esb Eck Ece Eer Eea HCK2
 obtain ⟨⟨a1, a2⟩, ⟨a3, a4⟩, ⟨a5, a6⟩⟩ := a
 obtain ⟨⟨b1, b2⟩, ⟨b3, b4⟩, ⟨b5, b6⟩⟩ := b
 obtain ⟨d1, d2⟩ := d
 obtain ⟨⟨o1, o2⟩, Eo⟩ : ∃ x : Fr, Hid (Fr.of 1 = x) := ⟨_, Lib.hid rfl⟩
 rw [Eo.out] at HOF HCM
 clear ht hc
 obtain ⟨w0, Ew0⟩ : ∃ y, (((w.alloc (.cells #[.string a1, .string a2, .string a3, .string a4, .string a5, .string a6] 38)).alloc (.cells #[.string b1, .string b2, .string b3, .string b4, .string b5, .string b6] 38)).alloc (.cells #[.string d1, .string d2] 36)).alloc (.cells #[.string ⟨#[]⟩, .string ⟨#[]⟩, .string ⟨#[]⟩, .string ⟨#[]⟩, .string ⟨#[]⟩, .string ⟨#[]⟩] 37) = y := ⟨_, rfl⟩
 have hb0 : Below w.heap.size w w0 := by rw [← Ew0]; exact belA
 have hxa : Box w0 w.heap.size #[.string a1, .string a2, .string a3, .string a4, .string a5, .string a6] 38 := by rw [← Ew0]; exact boxA
 have hxb : Box w0 (w.heap.size + 1) #[.string b1, .string b2, .string b3, .string b4, .string b5, .string b6] 38 := by rw [← Ew0]; exact boxA
 have hxd : Box w0 (w.heap.size + 1 + 1) #[.string d1, .string d2] 36 := by rw [← Ew0]; exact boxA
 have hxr : Box w0 (w.heap.size + 1 + 1 + 1) #[.string ⟨#[]⟩, .string ⟨#[]⟩, .string ⟨#[]⟩, .string ⟨#[]⟩, .string ⟨#[]⟩, .string ⟨#[]⟩] 37 := by rw [← Ew0]; exact Box.at3 _ _ _ _ _ _
 go_enter Tryz.func36, Tryz.ntmps36
 unfold light.Tri.v light.Tri.cells Fr.v
 go_wp2_with fail
 clear Ew0
 refine (HCO.out _ hb0).mono ?_
 rintro e w1 ⟨hb1, vc, rfl, hy1, hy2⟩
 have h1 : Below w.heap.size w w1 := Bt hb0 hb1
 by_cases hce : ce = 0
 rotate_left
 ·have hv := hy2 hce
  subst hv
  have HE : Hid (er = ce) := Lib.hid (by
   have : ea = ce := by rw [HEA.out, if_pos hce]
   rw [HEG.out (by rw [this]; exact hce), this])
  clear hy1 hy2
  go_wp2_with fail
  refine (needM_yes _ _ _ ce hce _).mono ?_
  rintro e w2 ⟨rfl, rfl⟩
  exact ⟨rfl, by rw [HE.out]; exact TryPost.no h1 hce⟩
 have hmv := hy1 hce
 clear hy1 hy2
 obtain ⟨rs, hR, -⟩ := id hmv
 obtain ⟨ac, cc, rfl, -⟩ := hR
 have HMV := Lib.hid hmv
 have HCE := Lib.hid hce
 subst hce
 clear hmv
 go_wp2_with fail
 refine (needM_no _ _ _ _).mono ?_
 rintro e w2 ⟨rfl, rfl⟩
 replace hxa := hxa.later hb1
 replace hxb := hxb.later hb1
 replace hxd := hxd.later hb1
 replace hxr := hxr.later hb1
 have cxa := hxa.cell
 go_wp2_with fail
 refine (HSA.out _).mono ?_
 rintro e w3 ⟨rfl, hb3⟩
 have h3 : Below w.heap.size w w3 := Bt h1 hb3
 by_cases hsa : sa = 0
 rotate_left
 ·have HE : Hid (er = sa) := Lib.hid (by
   have : ea = sa := by rw [HEA.out, if_neg (by simp), if_pos hsa]
   rw [HEG.out (by rw [this]; exact hsa), this])
  go_wp2_with fail
  refine (stop_yes sa hsa _).mono ?_
  rintro e w4 ⟨rfl, rfl⟩
  exact ⟨rfl, by rw [HE.out]; exact TryPost.no h3 hsa⟩
 subst hsa
 replace hxa := hxa.later hb3
 replace hxb := hxb.later hb3
 replace hxd := hxd.later hb3
 replace hxr := hxr.later hb3
 replace HMV := Lib.hid (HMV.out.later hb3)
 have cxb := hxb.cell
 clear cxa
 go_wp2_with fail
 refine (stop_no _).mono ?_
 rintro e w4 ⟨rfl, rfl⟩
 go_wp2_with fail
 refine (HSB.out _).mono ?_
 rintro e w5 ⟨rfl, hb5⟩
 have h5 : Below w.heap.size w w5 := Bt h3 hb5
 by_cases hsb : sb = 0
 rotate_left
 ·have HE : Hid (er = sb) := Lib.hid (by
   have : ea = sb := by rw [HEA.out, if_neg (by simp), if_neg (by simp), if_pos hsb]
   rw [HEG.out (by rw [this]; exact hsb), this])
  go_wp2_with fail
  refine (stop_yes sb hsb _).mono ?_
  rintro e w6 ⟨rfl, rfl⟩
  exact ⟨rfl, by rw [HE.out]; exact TryPost.no h5 hsb⟩
 subst hsb
 replace hxa := hxa.later hb5
 replace hxb := hxb.later hb5
 replace hxd := hxd.later hb5
 replace hxr := hxr.later hb5
 replace HMV := Lib.hid (HMV.out.later hb5)
 have cxd := hxd.cell
 clear cxb
 go_wp2_with fail
 refine (stop_no _).mono ?_
 rintro e w6 ⟨rfl, rfl⟩
 go_wp2_with fail
 refine (HCK.out _).mono ?_
 rintro e w7 ⟨rfl, hb7⟩
 have h7 : Below w.heap.size w w7 := Bt h5 hb7
 by_cases hck : ck = 0
 rotate_left
 ·have HE : Hid (er = ck) := Lib.hid (by
   have : ea = ck := by rw [HEA.out, if_neg (by simp), if_neg (by simp), if_neg (by simp), if_pos hck]
   rw [HEG.out (by rw [this]; exact hck), this])
  go_wp2_with fail
  refine (stop_yes ck hck _).mono ?_
  rintro e w8 ⟨rfl, rfl⟩
  exact ⟨rfl, by rw [HE.out]; exact TryPost.no h7 hck⟩
 subst hck
 replace hxa := hxa.later hb7
 replace hxb := hxb.later hb7
 replace hxd := hxd.later hb7
 replace hxr := hxr.later hb7
 replace HMV := Lib.hid (HMV.out.later hb7)
 clear cxd
 go_wp2_with fail
 refine (stop_no _).mono ?_
 rintro e w8 ⟨rfl, rfl⟩
 go_wp2_with fail
 refine (HOF.out _ h7).mono ?_
 rintro e w9 ⟨rfl, hb9⟩
 unfold Fr.v
 go_wp2_with fail
 refine (needF_no ⟨o1, o2⟩ _).mono ?_
 unfold Fr.v
 rintro e wa ⟨rfl, hba⟩
 have h8a : Below w8.heap.size w8 wa := Bt hb9 hba
 have ha : Below w.heap.size w wa := Bt h7 h8a
 replace hxa := hxa.later h8a
 replace hxb := hxb.later h8a
 replace hxd := hxd.later h8a
 replace hxr := hxr.later h8a
 replace HMV := Lib.hid (HMV.out.later h8a)
 clear hb0 hb1 hb3 hb5 hb7 hb9 hba h1 h3 h5 h7 h8a HCO HSA HSB HCK HOF
 have cxd := hxd.cell
 have lxd := hxd.lt
 have hsg := HSG.out (by first | rfl | trivial)
 have hcm := HCM.out (by first | rfl | trivial)
 obtain ⟨z1, Ez1⟩ : ∃ y, Hid (cmpq qd 0 = y) := ⟨_, Lib.hid rfl⟩
 obtain ⟨z2, Ez2⟩ : ∃ y, Hid (cmpq qd 1 = y) := ⟨_, Lib.hid rfl⟩
 rw [Ez1.out] at hsg HEA
 rw [Ez2.out] at hcm HEA
 have HSG2 := Lib.hid hsg
 have HCM2 := Lib.hid hcm
 unfold Fr.v at HSG2 HCM2
 have hb' : Below wa.heap.size wa (wa.alloc (.cells #[.string o1, .string o2] 36)) := belA
 obtain ⟨wb, Ewb⟩ : ∃ y, wa.alloc (.cells #[.string o1, .string o2] 36) = y := ⟨_, rfl⟩
 have hxo := Box.new wa #[.string o1, .string o2] 36
 rw [Ewb] at hb' hxo
 clear hsg hcm HSG HCM
 replace hxa := hxa.later hb'
 replace hxb := hxb.later hb'
 replace hxd := hxd.later hb'
 replace hxr := hxr.later hb'
 replace HMV := Lib.hid (HMV.out.later hb')
 have hbw : Below w.heap.size w wb := Bt ha hb'
 obtain ⟨bo, Ebo⟩ : ∃ y, wa.heap.size = y := ⟨_, rfl⟩
 rw [Ebo] at hxo
 clear hb' ha
 replace cxd := hxd.cell
 go_wp2_with fail
 clear Ewb Ebo
 refine (HSG2.out _).mono ?_
 rintro e w3 ⟨rfl, hb3⟩
 have h3 : Below w.heap.size w w3 := Bt hbw hb3
 replace hxa := hxa.later hb3
 replace hxb := hxb.later hb3
 replace hxd := hxd.later hb3
 replace hxr := hxr.later hb3
 replace hxo := hxo.later hb3
 replace HMV := Lib.hid (HMV.out.later hb3)
 replace cxd := hxd.cell
 have cxo := hxo.cell
 clear hb3 hbw
 go_wp2_with fail
 refine (needI_no _ _).mono ?_
 rintro e w4 ⟨rfl, rfl⟩
 by_cases hz1 : z1 < 0
 ·have HE : Hid (er = 2) := Lib.hid (by
   have : ea = 2 := by rw [HEA.out, if_neg (by simp), if_neg (by simp), if_neg (by simp), if_neg (by simp), if_pos (.inl hz1)]
   rw [HEG.out (by rw [this]; decide), this])
  have b1 : decide (z1 < 0) = true := decide_eq_true hz1
  clear hz1
  go_wp2_with fail
  refine (stop_yes 2 (by decide) _).mono ?_
  rintro e w6 ⟨rfl, rfl⟩
  exact ⟨rfl, by rw [HE.out]; exact TryPost.no h3 (by decide)⟩
 have b1 : decide (z1 < 0) = false := decide_eq_false hz1
 go_wp2_with fail
 refine (HCM2.out _).mono ?_
 rintro e w5 ⟨rfl, hb5⟩
 have h5 : Below w.heap.size w w5 := Bt h3 hb5
 replace hxa := hxa.later hb5
 replace hxb := hxb.later hb5
 replace hxd := hxd.later hb5
 replace hxr := hxr.later hb5
 replace hxo := hxo.later hb5
 replace HMV := Lib.hid (HMV.out.later hb5)
 clear hb5 h3 cxd cxo
 go_wp2_with fail
 refine (needI_no _ _).mono ?_
 rintro e w6 ⟨rfl, rfl⟩
 by_cases hz2 : 0 < z2
 ·have HE : Hid (er = 2) := Lib.hid (by
   have : ea = 2 := by rw [HEA.out, if_neg (by simp), if_neg (by simp), if_neg (by simp), if_neg (by simp), if_pos (.inr hz2)]
   rw [HEG.out (by rw [this]; decide), this])
  have b2 : decide (0 < z2) = true := decide_eq_true hz2
  clear hz1 hz2
  go_wp2_with fail
  refine (stop_yes 2 (by decide) _).mono ?_
  rintro e w7 ⟨rfl, rfl⟩
  exact ⟨rfl, by rw [HE.out]; exact TryPost.no h5 (by decide)⟩
 have b2 : decide (0 < z2) = false := decide_eq_false hz2
 have HER2 : Hid (er = if all3 fa = false then 6 else if all3 fb = false then 6 else if zero3 fa then 7 else if gainOk qd (fa 0) (fb 0) && gainOk qd (fa 1) (fb 1) && gainOk qd (fa 2) (fb 2) then 0 else 6) := Lib.hid (by
  have : ea = 0 := by rw [HEA.out, if_neg (by simp), if_neg (by simp), if_neg (by simp), if_neg (by simp), if_neg (by omega)]
  rw [HER.out, if_neg (by rw [this]; simp)])
 clear hz1 hz2 HEA HER HEG HSG2 HCM2 Ez1 Ez2
 have hsa := fun va w' hb hv => HSEa.out (by first | rfl | trivial) va w' hb hv (by first | rfl | trivial)
 have hsb := fun va w' hb hv => HSEb.out (by first | rfl | trivial) va w' hb hv (by first | rfl | trivial)
 have HSA := Lib.hid hsa
 have HSB := Lib.hid hsb
 obtain ⟨hdq, hdo⟩ := HDD.out (by first | rfl | trivial)
 have HDQ := Lib.hid hdq
 have HDO := Lib.hid hdo
 clear hsa hsb HSEa HSEb HDD hdq hdo
 have cxa := hxa.cell
 have cxb := hxb.cell
 have lxa := hxa.lt
 have lxb := hxb.lt
 unfold light.Tri.v light.Tri.cells at HSA HSB
 go_wp2_with fail
 obtain ⟨⟨⟨f1, f2⟩, ⟨f3, f4⟩, ⟨f5, f6⟩⟩, Ef⟩ : ∃ y : light.Tri, Hid (tri3 fa = y) := ⟨_, Lib.hid rfl⟩
 obtain ⟨⟨⟨g1, g2⟩, ⟨g3, g4⟩, ⟨g5, g6⟩⟩, Eg⟩ : ∃ y : light.Tri, Hid (tri3 fb = y) := ⟨_, Lib.hid rfl⟩
 rw [Ef.out] at HSA
 rw [Eg.out] at HSB
 refine wp_region_walk [(.pure, 0), (.read, 1), (.pure, 3), (.read, 4), (.ext, 2), (.ext, 5), (.alloc #[.string ⟨#[]⟩, .string ⟨#[]⟩, .string ⟨#[]⟩, .string ⟨#[]⟩, .string ⟨#[]⟩, .string ⟨#[]⟩] 137, 6), (.alloc #[.string ⟨#[]⟩, .string ⟨#[]⟩, .string ⟨#[]⟩, .string ⟨#[]⟩, .string ⟨#[]⟩, .string ⟨#[]⟩] 137, 7), (.fin, 8), (.fin, 9)] (by kernel_rfl) (by kernel_rfl) (allocRuns_of (by kernel_rfl)) (fun _ _ _ _ hd h => And.intro (hd.trans (And.left h)) (And.right h)) ?_
 repeat (first | (refine walk_pure0 rfl rfl (fun J hJ => ?_); go_simp; refine hJ _ ?_; clear hJ J) | (refine walk_load rfl rfl rfl rfl (fun J hJ => ?_); go_simp; refine hJ _ ?_; clear hJ J; try go_simp))
 refine walk_ext rfl rfl (fun w1 hb1 J hJ => ?_); go_simp
 have h61 : Below w6.heap.size w6 w1 := belA
 refine (HSA.out _ w1 (Bt h5 h61) (HMV.out.later h61)).mono ?_
 rintro e w2 ⟨hb2, ⟨he, v, rfl, rfl⟩ | ⟨he, rfl⟩⟩
 rotate_left
 ·have hf : all3 fa = false := by
   cases h : all3 fa with
   | false => rfl
   | true => rw [h] at he; exact absurd rfl he
  have HE : Hid (er = 6) := Lib.hid (by rw [HER2.out, if_pos hf])
  have he6 : (if all3 fa = true then (0 : Int) else 6) = 6 := by rw [hf]; rfl
  rw [he6]
  exact ⟨rfl, by rw [HE.out]; exact TryPost.no (Bt (Bt h5 h61) hb2) (by decide)⟩
 have hfa : all3 fa = true := by
  cases h : all3 fa with
  | true => rfl
  | false => rw [h] at he; cases he
 have HFA := Lib.hid hfa
 refine hJ _ _ hb2 ?_
 clear hJ J he hfa
 have h62 : Below w6.heap.size w6 w2 := Bt h61 hb2
 try unfold light.Tri.v light.Tri.cells
 repeat (first | (refine walk_pure0 rfl rfl (fun J hJ => ?_); go_simp; refine hJ _ ?_; clear hJ J) | (refine walk_load rfl rfl rfl rfl (fun J hJ => ?_); go_simp; refine hJ _ ?_; clear hJ J; try go_simp))
 refine walk_ext rfl rfl (fun w3 hb3 J hJ => ?_); go_simp
 have h63 : Below w6.heap.size w6 w3 := Bt h62 hb3
 refine (HSB.out _ w3 (Bt h5 h63) (HMV.out.later h63)).mono ?_
 rintro e w4 ⟨hb4, ⟨he, v, rfl, rfl⟩ | ⟨he, rfl⟩⟩
 rotate_left
 ·have hf : all3 fb = false := by
   cases h : all3 fb with
   | false => rfl
   | true => rw [h] at he; exact absurd rfl he
  have HE : Hid (er = 6) := Lib.hid (by rw [HER2.out, if_neg (by rw [HFA.out]; simp), if_pos hf])
  have he6 : (if all3 fb = true then (0 : Int) else 6) = 6 := by rw [hf]; rfl
  rw [he6]
  exact ⟨rfl, by rw [HE.out]; exact TryPost.no (Bt (Bt h5 h63) hb4) (by decide)⟩
 have hfb : all3 fb = true := by
  cases h : all3 fb with
  | true => rfl
  | false => rw [h] at he; cases he
 have HFB := Lib.hid hfb
 refine hJ _ _ hb4 ?_
 clear hJ J he hfb
 have h64 : Below w6.heap.size w6 w4 := Bt h63 hb4
 try unfold light.Tri.v light.Tri.cells
 repeat (first | (refine walk_pure0 rfl rfl (fun J hJ => ?_); go_simp; refine hJ _ ?_; clear hJ J) | (refine walk_load rfl rfl rfl rfl (fun J hJ => ?_); go_simp; refine hJ _ ?_; clear hJ J; try go_simp))
 refine walk_alloc rfl (fun p1 w5 hw5 hNp1 hltp1 hAp1 hxp1 => ?_); go_simp; replace hxp1 : Box _ _ _ _ := hxp1; have hWp1 : w.heap.size ≤ p1 := (by first | omega | exact Nat.le_trans (Below.size (B := w.heap.size) belA) hNp1)
 
 refine walk_alloc rfl (fun p2 w7 hw7 hNp2 hltp2 hAp2 hxp2 => ?_); go_simp; replace hxp2 : Box _ _ _ _ := hxp2; have hWp2 : w.heap.size ≤ p2 := (by first | omega | exact Nat.le_trans (Below.size (B := w.heap.size) belA) hNp2)
 replace hxp1 := Box.later (hxp1) hw7; replace chxp1 := hxp1.cell; replace fhxp1 := hxp1.free; replace lhxp1 := hxp1.lt
 refine walk_fin [_, _] rfl (fun w8 hb8 => ?_)
 replace hxp1 := Box.later (hxp1) hb8; replace chxp1 := hxp1.cell; replace fhxp1 := hxp1.free; replace lhxp1 := hxp1.lt; replace hxp2 := Box.later (hxp2) hb8; replace chxp2 := hxp2.cell; replace fhxp2 := hxp2.free; replace lhxp2 := hxp2.lt
 have h68 : Below w6.heap.size w6 w8 := belA
 have n12 : p1 ≠ p2 := fun e => hAp2 (by simp [e])
 have n21 : p2 ≠ p1 := fun e => n12 e.symm
 have ge1 : w6.heap.size ≤ p1 := hNp1
 have ge2 : w6.heap.size ≤ p2 := hNp2
 have hmf : ∀ (fn : Fn) (first cap : Array Value) (w : World), (Instr.makeFunc fn first cap).run Tryz.prog w = .ok (.func fn first cap) w := fun _ _ _ _ => rfl
 have haz := fun w' => anyZero_ok fa HFA.out w'
 rw [Ef.out] at haz
 have HAZ := Lib.hid haz
 unfold light.Tri.v light.Tri.cells at HAZ
 obtain ⟨wn, Ewn⟩ : ∃ y, ((((((((((((w8.setCell ⟨p1, 0, none⟩ (.string f1)).setCell ⟨p1, 1, none⟩ (.string f2)).setCell ⟨p1, 2, none⟩ (.string f3)).setCell ⟨p1, 3, none⟩ (.string f4)).setCell ⟨p1, 4, none⟩ (.string f5)).setCell ⟨p1, 5, none⟩ (.string f6)).setCell ⟨p2, 0, none⟩ (.string g1)).setCell ⟨p2, 1, none⟩ (.string g2)).setCell ⟨p2, 2, none⟩ (.string g3)).setCell ⟨p2, 3, none⟩ (.string g4)).setCell ⟨p2, 4, none⟩ (.string g5)).setCell ⟨p2, 5, none⟩ (.string g6)) = y := ⟨_, rfl⟩
 have h6n : Below w6.heap.size w6 wn := by
  rw [← Ewn]
  exact (((((((((((h68.setCell ge1 _).setCell ge1 _).setCell ge1 _).setCell ge1 _).setCell ge1 _).setCell ge1 _).setCell ge2 _).setCell ge2 _).setCell ge2 _).setCell ge2 _).setCell ge2 _).setCell ge2 _
 have hX1 : Box wn p1 #[.string f1, .string f2, .string f3, .string f4, .string f5, .string f6] 137 := by
  rw [← Ewn]
  exact (((((((((((hxp1.set 0 _).set 1 _).set 2 _).set 3 _).set 4 _).set 5 _).setOther _ n12).setOther _ n12).setOther _ n12).setOther _ n12).setOther _ n12).setOther _ n12
 have hX2 : Box wn p2 #[.string g1, .string g2, .string g3, .string g4, .string g5, .string g6] 137 := by
  rw [← Ewn]
  exact (((((((((((hxp2.setOther _ n21).setOther _ n21).setOther _ n21).setOther _ n21).setOther _ n21).setOther _ n21).set 0 _).set 1 _).set 2 _).set 3 _).set 4 _).set 5 _
 have cX1 := hX1.cell
 have lX1 := hX1.lt
 clear h61 h62 h63 h64 h68 haz hb1 hb2 hb3 hb4 hb8 cxa cxb lxa lxb
 go_wp2_with fail
 clear chxp1 fhxp1 lhxp1 chxp2 fhxp2 lhxp2 hxp1 hxp2 Ewn
 refine (HAZ.out _).mono ?_
 rintro e wz ⟨rfl, hbz⟩
 have h6z : Below w6.heap.size w6 wz := Bt h6n hbz
 have hwz : Below w.heap.size w wz := Bt h5 h6z
 by_cases hz0 : zero3 fa = true
 ·have HE : Hid (er = 7) := Lib.hid (by rw [HER2.out, if_neg (by rw [HFA.out]; simp), if_neg (by rw [HFB.out]; simp), if_pos hz0])
  rw [hz0]
  go_wp2_with fail
  refine (stop_yes 7 (by decide) _).mono ?_
  rintro e w7 ⟨rfl, rfl⟩
  exact ⟨rfl, by rw [HE.out]; exact TryPost.no hwz (by decide)⟩
 have hz1 : zero3 fa = false := by simpa using hz0
 have HZF := Lib.hid hz1
 rw [hz1]
 have HER3 : Hid (er = if gainOk qd (fa 0) (fb 0) && gainOk qd (fa 1) (fb 1) && gainOk qd (fa 2) (fb 2) then 0 else 6) := Lib.hid (by
  rw [HER2.out, if_neg (by rw [HFA.out]; simp), if_neg (by rw [HFB.out]; simp), if_neg hz0])
 have HX1 := Lib.hid (hX1.later hbz)
 have HX2 := Lib.hid (hX2.later hbz)
 have HXD := Lib.hid (hxd.later h6z)
 have HXO := Lib.hid (hxo.later h6z)
 have HXR := Lib.hid (hxr.later h6z)
 clear hz0 hz1 hX1 hX2 cX1 lX1 hxa hxb hxd hxo hxr h6n h6z hbz h5 HMV HAZ HSA HSB HER2
 go_wp2_with fail
 have HGK : Hid (∀ k : Nat, k < 3 → ∀ W, Below wz.heap.size wz W → Calls Tryz.prog 86 #[.int .i64 (k : Int), .pointer (some ⟨p2, 0, none⟩), .pointer (some ⟨p1, 0, none⟩), .pointer (some ⟨w.heap.size + 1 + 1, 0, none⟩), .pointer (some ⟨bo, 0, none⟩)] W (TryPost W (if gainOk qd (fa k) (fb k) then 0 else 6) (fun v _ => v = (Fr.of (gainQ qd (fa k) (fb k))).v))) := Lib.hid fun k hk W hW => by
  have hfa := HFA.out
  have hfb := HFB.out
  have hz := HZF.out
  unfold all3 at hfa hfb
  unfold zero3 at hz
  simp only [Bool.and_eq_true] at hfa hfb
  simp only [Bool.or_eq_false_iff, decide_eq_false_iff_not] at hz
  have hx1 := HX1.out.later hW
  have hx2 := HX2.out.later hW
  have hxd := HXD.out.later hW
  have hxo := HXO.out.later hW
  have e1 : (tri3 fa).cells = #[.string f1, .string f2, .string f3, .string f4, .string f5, .string f6] := by rw [Ef.out]; rfl
  have e2 : (tri3 fb).cells = #[.string g1, .string g2, .string g3, .string g4, .string g5, .string g6] := by rw [Eg.out]; rfl
  rw [← e1] at hx1
  rw [← e2] at hx2
  have e3 : #[Value.string d1, .string d2] = #[.string (Fr.of qd).n, .string (Fr.of qd).d] := by rw [← HDQ.out]
  have e4 : #[Value.string o1, .string o2] = #[.string (Fr.of 1).n, .string (Fr.of 1).d] := by rw [Eo.out]
  rw [e3] at hxd
  rw [e4] at hxo
  have hk3 : k = 0 ∨ k = 1 ∨ k = 2 := by omega
  refine gain_ok p2 p1 _ bo k fb fa qd W hx2 hx1 hxd hxo hk ?_ ?_ ?_ HDO.out (HT.out.later (Bt hwz hW))
  ·rcases hk3 with rfl | rfl | rfl
   ·exact hfb.1.1
   ·exact hfb.1.2
   ·exact hfb.2
  ·rcases hk3 with rfl | rfl | rfl
   ·exact hfa.1.1
   ·exact hfa.1.2
   ·exact hfa.2
  ·rcases hk3 with rfl | rfl | rfl
   ·exact hz.1.1
   ·exact hz.1.2
   ·exact hz.2
 have h0z : Below wz.heap.size wz (wz.alloc (.cells #[.string ⟨#[]⟩, .string ⟨#[]⟩, .string ⟨#[]⟩, .string ⟨#[]⟩, .string ⟨#[]⟩, .string ⟨#[]⟩] 37)) := belA
 have HB0 := Lib.hid (Box.new wz #[.string ⟨#[]⟩, .string ⟨#[]⟩, .string ⟨#[]⟩, .string ⟨#[]⟩, .string ⟨#[]⟩, .string ⟨#[]⟩] 37)
 obtain ⟨gq, Egq⟩ : ∃ y : Nat → Rat, Hid ((fun k : Nat => gainQ qd (fa k) (fb k)) = y) := ⟨_, Lib.hid rfl⟩
 obtain ⟨ok, Eok⟩ : ∃ y : Nat → Bool, Hid ((fun k : Nat => gainOk qd (fa k) (fb k)) = y) := ⟨_, Lib.hid rfl⟩
 have e1 : ∀ k : Nat, gainQ qd (fa k) (fb k) = gq k := fun k => by rw [← Egq.out]
 have e2 : ∀ k : Nat, gainOk qd (fa k) (fb k) = ok k := fun k => by rw [← Eok.out]
 simp only [e1, e2] at HGK HER3
 clear HX1 HX2 HXD HXO e1 e2 Eok HFA HFB HZF HDQ HDO Ef Eg Eo hmf
 go_loopw [61] (fun iv wr => ∃ (k : Nat) (s1 s2 s3 s4 s5 s6 : ByteArray), iv = .int .i64 (k : Int) ∧ k ≤ 3 ∧ Hid (Box wr wz.heap.size #[.string s1, .string s2, .string s3, .string s4, .string s5, .string s6] 37) ∧ Hid ((0 < k → (⟨s1, s2⟩ : Fr) = Fr.of (gq 0)) ∧ (1 < k → (⟨s3, s4⟩ : Fr) = Fr.of (gq 1)) ∧ (2 < k → (⟨s5, s6⟩ : Fr) = Fr.of (gq 2)) ∧ ∀ j, j < k → ok j = true) ∧ Below wz.heap.size wz wr) (fun iv _ => 3 - (intOf iv).toNat)
 case atStart => exact ⟨0, _, _, _, _, _, _, rfl, by omega, HB0, Lib.hid ⟨fun h => by omega, fun h => by omega, fun h => by omega, fun j h => by omega⟩, h0z⟩
 case round =>
  obtain ⟨k, s1, s2, s3, s4, s5, s6, rfl, hk, HB, HK, hb⟩ := hrel
  have c14 := HB.out.cell
  have l14 := HB.out.lt
  rcases Nat.lt_or_ge k 3 with hlt | hge
  ·have hk3 : k = 0 ∨ k = 1 ∨ k = 2 := by omega
   rcases hk3 with rfl | rfl | rfl
   ·have hcall := HGK.out 0 (by omega) _ hb
    have HCALL := Lib.hid hcall
    clear hcall
    go_wp2_with fail
    refine HCALL.out.mono ?_
    rintro e w2 ⟨hb2, ⟨he, v, rfl, rfl⟩ | ⟨he, rfl⟩⟩
    rotate_left
    ·have hf : ok 0 = false := by
      cases h : ok 0 with
      | false => rfl
      | true => rw [h] at he; exact absurd rfl he
     have HE : Hid (er = 6) := Lib.hid (by rw [HER3.out, hf]; simp)
     have he6 : (if ok 0 = true then (0 : Int) else 6) = 6 := by rw [hf]; rfl
     rw [he6]
     exact ⟨rfl, by rw [HE.out]; exact TryPost.no (Bt (Bt hwz hb) hb2) (by decide)⟩
    have hok : ok 0 = true := by
     cases h : ok 0 with
     | true => rfl
     | false => rw [h] at he; cases he
    have HOK := Lib.hid hok
    obtain ⟨⟨t1, t2⟩, HTE⟩ : ∃ y : Fr, Hid (y = Fr.of (gq 0)) := ⟨_, Lib.hid rfl⟩
    rw [← HTE.out]
    unfold Fr.v
    have hB2 := HB.out.later hb2
    have c2 := hB2.cell
    have f2 := hB2.free
    clear he hok HCALL c14 l14
    go_wp2_with fail
    go_roundw
    case rel =>
     refine ⟨0 + 1, t1, t2, s3, s4, s5, s6, by go_num, by omega, Lib.hid ((hB2.set 0 _).set 1 _), Lib.hid ⟨fun _ => HTE.out, fun h => by omega, fun h => by omega, fun j hj => ?_⟩, ((Bt hb hb2).setCell (Nat.le_refl _) _).setCell (Nat.le_refl _) _⟩
     rcases Nat.lt_or_ge j 0 with h | h
     ·exact HK.out.2.2.2 j h
     ·obtain rfl : j = 0 := by omega
      exact HOK.out
    case measure => simp [intOf]
   ·have hcall := HGK.out 1 (by omega) _ hb
    have HCALL := Lib.hid hcall
    clear hcall
    go_wp2_with fail
    refine HCALL.out.mono ?_
    rintro e w2 ⟨hb2, ⟨he, v, rfl, rfl⟩ | ⟨he, rfl⟩⟩
    rotate_left
    ·have hf : ok 1 = false := by
      cases h : ok 1 with
      | false => rfl
      | true => rw [h] at he; exact absurd rfl he
     have HE : Hid (er = 6) := Lib.hid (by rw [HER3.out, hf]; simp)
     have he6 : (if ok 1 = true then (0 : Int) else 6) = 6 := by rw [hf]; rfl
     rw [he6]
     exact ⟨rfl, by rw [HE.out]; exact TryPost.no (Bt (Bt hwz hb) hb2) (by decide)⟩
    have hok : ok 1 = true := by
     cases h : ok 1 with
     | true => rfl
     | false => rw [h] at he; cases he
    have HOK := Lib.hid hok
    obtain ⟨⟨t1, t2⟩, HTE⟩ : ∃ y : Fr, Hid (y = Fr.of (gq 1)) := ⟨_, Lib.hid rfl⟩
    rw [← HTE.out]
    unfold Fr.v
    have hB2 := HB.out.later hb2
    have c2 := hB2.cell
    have f2 := hB2.free
    clear he hok HCALL c14 l14
    go_wp2_with fail
    go_roundw
    case rel =>
     refine ⟨1 + 1, s1, s2, t1, t2, s5, s6, by go_num, by omega, Lib.hid ((hB2.set 2 _).set 3 _), Lib.hid ⟨fun _ => HK.out.1 (by omega), fun _ => HTE.out, fun h => by omega, fun j hj => ?_⟩, ((Bt hb hb2).setCell (Nat.le_refl _) _).setCell (Nat.le_refl _) _⟩
     rcases Nat.lt_or_ge j 1 with h | h
     ·exact HK.out.2.2.2 j h
     ·obtain rfl : j = 1 := by omega
      exact HOK.out
    case measure => simp [intOf]
   ·have hcall := HGK.out 2 (by omega) _ hb
    have HCALL := Lib.hid hcall
    clear hcall
    go_wp2_with fail
    refine HCALL.out.mono ?_
    rintro e w2 ⟨hb2, ⟨he, v, rfl, rfl⟩ | ⟨he, rfl⟩⟩
    rotate_left
    ·have hf : ok 2 = false := by
      cases h : ok 2 with
      | false => rfl
      | true => rw [h] at he; exact absurd rfl he
     have HE : Hid (er = 6) := Lib.hid (by rw [HER3.out, hf]; simp)
     have he6 : (if ok 2 = true then (0 : Int) else 6) = 6 := by rw [hf]; rfl
     rw [he6]
     exact ⟨rfl, by rw [HE.out]; exact TryPost.no (Bt (Bt hwz hb) hb2) (by decide)⟩
    have hok : ok 2 = true := by
     cases h : ok 2 with
     | true => rfl
     | false => rw [h] at he; cases he
    have HOK := Lib.hid hok
    obtain ⟨⟨t1, t2⟩, HTE⟩ : ∃ y : Fr, Hid (y = Fr.of (gq 2)) := ⟨_, Lib.hid rfl⟩
    rw [← HTE.out]
    unfold Fr.v
    have hB2 := HB.out.later hb2
    have c2 := hB2.cell
    have f2 := hB2.free
    clear he hok HCALL c14 l14
    go_wp2_with fail
    go_roundw
    case rel =>
     refine ⟨2 + 1, s1, s2, s3, s4, t1, t2, by go_num, by omega, Lib.hid ((hB2.set 4 _).set 5 _), Lib.hid ⟨fun _ => HK.out.1 (by omega), fun _ => HK.out.2.1 (by omega), fun _ => HTE.out, fun j hj => ?_⟩, ((Bt hb hb2).setCell (Nat.le_refl _) _).setCell (Nat.le_refl _) _⟩
     rcases Nat.lt_or_ge j 2 with h | h
     ·exact HK.out.2.2.2 j h
     ·obtain rfl : j = 2 := by omega
      exact HOK.out
    case measure => simp [intOf]
  ·have hk3 : k = 3 := by omega
   subst hk3
   obtain ⟨q1, q2, q3, q4⟩ := HK.out
   have HE : Hid (er = 0) := Lib.hid (by rw [HER3.out, q4 0 (by omega), q4 1 (by omega), q4 2 (by omega)]; rfl)
   have HTV : Hid ((tri3 gq).v = .agg #[.string s1, .string s2, .string s3, .string s4, .string s5, .string s6]) := Lib.hid (by
    unfold tri3
    rw [← q1 (by omega), ← q2 (by omega), ← q3 (by omega)]
    rfl)
   have hr := HXR.out.later hb
   have cr := hr.cell
   have fr := hr.free
   have HGQ : Hid ((fun i => gainQ qd (fa i) (fb i)) = gq) := Egq
   clear q1 q2 q3 q4
   go_wp2_with fail
   refine ret_c rfl rfl ((((((hr.set 0 _).set 1 _).set 2 _).set 3 _).set 4 _).set 5 _) Tryz.underlying37 rfl (by kernel_rfl) ?_
   rw [HE.out, HGQ.out]
   refine TryPost.yes ?_ (by show _ = (tri3 gq).v; rw [HTV.out]; rfl)
   have hww := Bt hwz hb
   have hsz : w.heap.size ≤ w.heap.size + 1 + 1 + 1 := by omega
   exact (((((hww.setCell hsz _).setCell hsz _).setCell hsz _).setCell hsz _).setCell hsz _).setCell hsz _
end Go.Proofs.adapt
namespace Go.Proofs.adapt
open Go Go.RowKit Go.SW Go.Num Go.Mem Go.Proofs Go.Dec Go.Fra
/-- The arguments in variables of their own. -/
def ArgsAt (w : World) (pk pa pb pd : Nat) (k : Int) (a b : light.Tri) (d : Fr) : Prop := Box w pk #[.int .i64 k] 3 ∧ Box w pa a.cells 38 ∧ Box w pb b.cells 38 ∧ Box w pd #[.string d.n, .string d.d] 36
theorem ArgsAt.later {w w' : World} {pk pa pb pd : Nat} {k : Int} {a b : light.Tri} {d : Fr} (h : ArgsAt w pk pa pb pd k a b d) (hb : Below w.heap.size w w') : ArgsAt w' pk pa pb pd k a b d := ⟨h.1.later hb, h.2.1.later hb, h.2.2.1.later hb, h.2.2.2.later hb⟩
set_option maxRecDepth 10000 in
set_option maxHeartbeats 1000000 in
theorem gains1_ok (pk pa pb pd : Nat) (k : Int) (a b : light.Tri) (d : Fr) (w : World) (h : ArgsAt w pk pa pb pd k a b d) (ht : Bld.Pow w) (hc : Cones w) :
  Calls Tryz.prog 71 #[.pointer (some ⟨pk, 0, none⟩), .pointer (some ⟨pa, 0, none⟩), .pointer (some ⟨pb, 0, none⟩), .pointer (some ⟨pd, 0, none⟩)] w (TryPost w (gainsE k a b d) (fun v _ => v = (tri3 (gainsQ k a b d)).v)) := by
 have HG := Lib.hid (fun w' (hb : Below w.heap.size w w') => gains_ok k a b d w' (ht.later hb) (hc.later hb))
 obtain ⟨er, Eer⟩ : ∃ y, Hid (gainsE k a b d = y) := ⟨_, Lib.hid rfl⟩
 obtain ⟨⟨⟨q1, q2⟩, ⟨q3, q4⟩, ⟨q5, q6⟩⟩, EG⟩ : ∃ y : light.Tri, Hid (tri3 (gainsQ k a b d) = y) := ⟨_, Lib.hid rfl⟩
 rw [Eer.out, EG.out] at HG ⊢
 obtain ⟨hk, ha, hb, hd⟩ := h
 obtain ⟨⟨a1, a2⟩, ⟨a3, a4⟩, ⟨a5, a6⟩⟩ := a
 obtain ⟨⟨b1, b2⟩, ⟨b3, b4⟩, ⟨b5, b6⟩⟩ := b
 obtain ⟨d1, d2⟩ := d
 unfold light.Tri.v light.Tri.cells Fr.v at HG
 unfold light.Tri.cells at ha hb
 have ck := hk.cell
 have ca := ha.cell
 have cb := hb.cell
 have cd := hd.cell
 have lk := hk.lt
 have la := ha.lt
 have lb := hb.lt
 have ld := hd.lt
 clear ht hc hk ha hb hd Eer EG
 have hb0 : Below w.heap.size w (w.alloc (.cells #[.string ⟨#[]⟩, .string ⟨#[]⟩, .string ⟨#[]⟩, .string ⟨#[]⟩, .string ⟨#[]⟩, .string ⟨#[]⟩] 37)) := belA
 have hr0 := Box.new w #[.string ⟨#[]⟩, .string ⟨#[]⟩, .string ⟨#[]⟩, .string ⟨#[]⟩, .string ⟨#[]⟩, .string ⟨#[]⟩] 37
 go_enter Tryz.func71, Tryz.ntmps71
 go_wp2_with fail
 refine (HG.out _ hb0).mono ?_
 rintro e w1 ⟨hb1, ⟨rfl, v, rfl, rfl⟩ | ⟨he, rfl⟩⟩
 ·have hr1 := hr0.later hb1
  have cr := hr1.cell
  have fr := hr1.free
  go_wp2_with fail
  refine ret_c rfl rfl ((((((hr1.set 0 _).set 1 _).set 2 _).set 3 _).set 4 _).set 5 _) Tryz.underlying37 rfl (by kernel_rfl) ?_
  have hw := Bt hb0 hb1
  have hsz : w.heap.size ≤ w.heap.size := Nat.le_refl _
  exact TryPost.yes ((((((hw.setCell hsz _).setCell hsz _).setCell hsz _).setCell hsz _).setCell hsz _).setCell hsz _) rfl
 ·exact ⟨rfl, TryPost.no (Bt hb0 hb1) he⟩
set_option maxRecDepth 10000 in
set_option maxHeartbeats 1000000 in
theorem Gains_ok (k : Int) (a b : light.Tri) (d : Fr) (w : World) (ht : Bld.Pow w) (hc : Cones w) :
  Calls Tryz.prog 27 #[.int .i64 k, a.v, b.v, d.v] w (TriPost w (gainsE k a b d) (tri3 (gainsQ k a b d))) := by
 have hmf : ∀ (fn : Fn) (first cap : Array Value) (w : World), (Instr.makeFunc fn first cap).run Tryz.prog w = .ok (.func fn first cap) w := fun _ _ _ _ => rfl
 obtain ⟨w0, Ew0⟩ : ∃ y, ((((w.alloc (.cells #[.int .i64 k] 3)).alloc (.cells a.cells 38)).alloc (.cells b.cells 38)).alloc (.cells #[.string d.n, .string d.d] 36)).alloc (.cells #[.string ⟨#[]⟩, .string ⟨#[]⟩, .string ⟨#[]⟩, .string ⟨#[]⟩, .string ⟨#[]⟩, .string ⟨#[]⟩] 37) = y := ⟨_, rfl⟩
 have hb0 : Below w.heap.size w w0 := by rw [← Ew0]; exact belA
 have hA : ArgsAt w0 w.heap.size (w.heap.size + 1) (w.heap.size + 1 + 1) (w.heap.size + 1 + 1 + 1) k a b d := by
  rw [← Ew0]
  exact ⟨boxA, boxA, boxA, (Box.at3 _ _ _ _ _ _).alloc _⟩
 have hr0 : Box w0 (w.heap.size + 1 + 1 + 1 + 1) #[.string ⟨#[]⟩, .string ⟨#[]⟩, .string ⟨#[]⟩, .string ⟨#[]⟩, .string ⟨#[]⟩, .string ⟨#[]⟩] 37 := by rw [← Ew0]; exact Box.new_at (by simp)
 obtain ⟨er, Eer⟩ : ∃ y, Hid (gainsE k a b d = y) := ⟨_, Lib.hid rfl⟩
 obtain ⟨g, Eg⟩ : ∃ y : light.Tri, Hid (tri3 (gainsQ k a b d) = y) := ⟨_, Lib.hid rfl⟩
 have hat := attemptG_ok 71 #[.pointer (some ⟨w.heap.size, 0, none⟩), .pointer (some ⟨w.heap.size + 1, 0, none⟩), .pointer (some ⟨w.heap.size + 1 + 1, 0, none⟩), .pointer (some ⟨w.heap.size + 1 + 1 + 1, 0, none⟩)] (gainsE k a b d) (tri3 (gainsQ k a b d)) w0
  (fun W hW => gains1_ok _ _ _ _ k a b d W (hA.later hW) ((ht.later hb0).later hW) ((hc.later hb0).later hW)) (fun args W => enters_of Tryz.func71 (by kernel_rfl) rfl args W)
 rw [Eer.out, Eg.out] at hat ⊢
 have HAT := Lib.hid hat
 obtain ⟨gg, Egg⟩ : ∃ y : light.Tri, Hid ((if er = 0 then g else noTri) = y) := ⟨_, Lib.hid rfl⟩
 obtain ⟨⟨a1, a2⟩, ⟨a3, a4⟩, ⟨a5, a6⟩⟩ := a
 obtain ⟨⟨b1, b2⟩, ⟨b3, b4⟩, ⟨b5, b6⟩⟩ := b
 obtain ⟨d1, d2⟩ := d
 unfold light.Tri.cells at Ew0
 simp only at Ew0
 have HR : Hid (TriPost w er g = fun e w' => Below w.heap.size w w' ∧ e = .returned (.tuple #[gg.v, .int .i64 er])) := Lib.hid (by unfold TriPost; rw [Egg.out])
 have HR0 : Hid (TriPost w0 er g = fun e w' => Below w0.heap.size w0 w' ∧ e = .returned (.tuple #[gg.v, .int .i64 er])) := Lib.hid (by unfold TriPost; rw [Egg.out])
 rw [HR.out]
 rw [HR0.out] at HAT
 obtain ⟨⟨g1, g2⟩, ⟨g3, g4⟩, ⟨g5, g6⟩⟩ := gg
 unfold light.Tri.v light.Tri.cells at HAT ⊢
 clear hat ht hc hA HR HR0 Egg Eer Eg
 go_enter Tryz.func27, Tryz.ntmps27
 unfold Fr.v
 go_wp2_with fail
 clear Ew0
 refine HAT.out.mono ?_
 rintro e w1 ⟨hb1, rfl⟩
 have hr1 := hr0.later hb1
 have cr := hr1.cell
 have fr := hr1.free
 clear HAT
 go_wp2_with fail
 refine ret_ct rfl rfl ((((((hr1.set 0 _).set 1 _).set 2 _).set 3 _).set 4 _).set 5 _) Tryz.underlying37 rfl (by kernel_rfl) ?_
 have hw := Bt hb0 hb1
 have hsz : w.heap.size ≤ w.heap.size + 1 + 1 + 1 + 1 := by omega
 exact ⟨(((((hw.setCell hsz _).setCell hsz _).setCell hsz _).setCell hsz _).setCell hsz _).setCell hsz _, rfl⟩
end Go.Proofs.adapt
namespace Go.Proofs.adapt
open Go Go.RowKit Go.SW Go.Num Go.Mem Go.Proofs Go.Dec Go.Fra
def diagR (g : Nat → Rat) : matrix.RM := (List.range 3).map fun i => (List.range 3).map fun j => if j = i then g i else 0
theorem diagR_fr (g : Nat → Rat) : diagM (tri3 g).list = (diagR g).fr := by
 have h0 : Fr.of 0 = Fr.zero := by decide +kernel
 show [[Fr.of (g 0), Fr.zero, Fr.zero], [Fr.zero, Fr.of (g 1), Fr.zero], [Fr.zero, Fr.zero, Fr.of (g 2)]] = [[Fr.of (g 0), Fr.of 0, Fr.of 0], [Fr.of 0, Fr.of (g 1), Fr.of 0], [Fr.of 0, Fr.of 0, Fr.of (g 2)]]
 rw [h0]
theorem diagR_ok (g : Nat → Rat) (h : all3 g = true) : (diagR g).ok 3 := by
 unfold all3 at h
 simp only [Bool.and_eq_true] at h
 have h0 : okq 0 = true := by decide +kernel
 refine ⟨by show 1 ≤ 3; omega, by show 3 ≤ 4; omega, by omega, by omega, fun r hr => ?_⟩
 have hr' : r ∈ [[g 0, 0, 0], [0, g 1, 0], [0, 0, g 2]] := hr
 simp only [List.mem_cons, List.not_mem_nil, or_false] at hr'
 rcases hr' with rfl | rfl | rfl <;> refine ⟨rfl, fun q hq => ?_⟩ <;> simp only [List.mem_cons, List.not_mem_nil, or_false] at hq <;> rcases hq with rfl | rfl | rfl <;> first | with_reducible exact h0 | with_reducible exact h.1.1 | with_reducible exact h.1.2 | with_reducible exact h.2
theorem mulQ_ok {a b : matrix.RM} {n : Nat} (h1 : 1 ≤ a.length) (h4 : a.length ≤ 4) (n1 : 1 ≤ n) (n4 : n ≤ 4) (h : matrix.allQ (matrix.mulQ a b n) = true) : (matrix.mulQ a b n).ok n := by
 refine ⟨by simpa [matrix.mulQ] using h1, by simpa [matrix.mulQ] using h4, n1, n4, fun r hr => ⟨?_, ?_⟩⟩
 ·obtain ⟨x, -, rfl⟩ := List.mem_map.1 hr
  simp
 ·have := List.all_eq_true.1 h r hr
  exact fun q hq => List.all_eq_true.1 this q hq
theorem inv0 : ∀ m, m < 4 → matrix.invE (coneR m) = 0 ∧ matrix.allQ (matrix.invM (coneR m)) = true := by decide +kernel
theorem inv_ok (m : Nat) (hm : m < 4) : (matrix.invM (coneR m)).ok 3 := by
 have h := (inv0 m hm).2
 refine ⟨by show 1 ≤ 3; omega, by show 3 ≤ 4; omega, by omega, by omega, fun r hr => ⟨?_, fun q hq => ?_⟩⟩
 ·obtain ⟨x, -, rfl⟩ := List.mem_map.1 hr
  simp [coneR]
 ·exact List.all_eq_true.1 (List.all_eq_true.1 h r hr) q hq
theorem gains_all {k : Int} {a b : light.Tri} {d : Fr} (h : gainsE k a b d = 0) : coneE k = 0 ∧ all3 (gainsQ k a b d) = true := by
 have hc : coneE k = 0 := by
  by_cases hk : coneE k = 0
  ·exact hk
  ·have : argsE k a b d = coneE k := by unfold argsE; rw [if_pos hk]
   unfold gainsE at h
   rw [this, if_pos hk] at h
   exact h
 refine ⟨hc, ?_⟩
 unfold gainsE at h
 split at h
 ·rename_i h1; exact absurd h h1
 split at h
 ·cases h
 split at h
 ·cases h
 split at h
 ·cases h
 split at h
 ·rename_i hg
  simp only [Bool.and_eq_true, gainOk] at hg
  unfold all3 gainsQ
  rw [hg.1.1.2, hg.1.2.2, hg.2.2]
  rfl
 ·cases h
def scaledQ (k : Int) (a b : light.Tri) (d : Fr) : matrix.RM := matrix.mulQ (matrix.invM (coneR (k - 1).toNat)) (diagR (gainsQ k a b d)) 3
def matR (k : Int) (a b : light.Tri) (d : Fr) : matrix.RM := matrix.mulQ (scaledQ k a b d) (coneR (k - 1).toNat) 3
def matE (k : Int) (a b : light.Tri) (d : Fr) : Int :=
 if gainsE k a b d ≠ 0 then gainsE k a b d else if matrix.allQ (scaledQ k a b d) then (if matrix.allQ (matR k a b d) then 0 else 6) else 6
set_option maxRecDepth 100000 in
set_option maxHeartbeats 4000000 in
theorem matrix1_ok (pk pa pb pd : Nat) (k : Int) (a b : light.Tri) (d : Fr) (w : World) (h : ArgsAt w pk pa pb pd k a b d) (ht : Bld.Pow w) (hc : Cones w) :
  Calls Tryz.prog 35 #[.pointer (some ⟨pk, 0, none⟩), .pointer (some ⟨pa, 0, none⟩), .pointer (some ⟨pb, 0, none⟩), .pointer (some ⟨pd, 0, none⟩)] w (TryPost w (matE k a b d) (fun v W => MatV W v (matR k a b d).fr)) := by
 have HG := Lib.hid (fun w' (hb : Below w.heap.size w w') => gains_ok k a b d w' (ht.later hb) (hc.later hb))
 have HCO := Lib.hid (fun w' (hb : Below w.heap.size w w') => Cone_ok k w' (ht.later hb) (hc.later hb))
 have HT := Lib.hid ht
 obtain ⟨C, EC⟩ : ∃ y, Hid (coneR (k - 1).toNat = y) := ⟨_, Lib.hid rfl⟩
 obtain ⟨I, EI⟩ : ∃ y, Hid (matrix.invM C = y) := ⟨_, Lib.hid rfl⟩
 obtain ⟨g, Eg⟩ : ∃ y, Hid (gainsQ k a b d = y) := ⟨_, Lib.hid rfl⟩
 obtain ⟨ge, Ege⟩ : ∃ y, Hid (gainsE k a b d = y) := ⟨_, Lib.hid rfl⟩
 obtain ⟨S, ES⟩ : ∃ y, Hid (matrix.mulQ I (diagR g) 3 = y) := ⟨_, Lib.hid rfl⟩
 obtain ⟨R, ER⟩ : ∃ y, Hid (matrix.mulQ S C 3 = y) := ⟨_, Lib.hid rfl⟩
 have hs : scaledQ k a b d = S := by unfold scaledQ; rw [EC.out, EI.out, Eg.out, ES.out]
 have hr : matR k a b d = R := by unfold matR; rw [hs, EC.out, ER.out]
 have he : matE k a b d = if ge ≠ 0 then ge else if matrix.allQ S then (if matrix.allQ R then 0 else 6) else 6 := by unfold matE; rw [Ege.out, hs, hr]
 have HALL : Hid (ge = 0 → coneE k = 0 ∧ all3 g = true) := Lib.hid (by rw [← Ege.out, ← Eg.out]; exact gains_all)
 have HM4 : Hid (coneE k = 0 → (k - 1).toNat < 4) := Lib.hid fun hk => by
  unfold coneE at hk
  by_cases h : k < 1 ∨ 4 < k
  ·rw [if_pos h] at hk; cases hk
  ·omega
 have HCOK : Hid (coneE k = 0 → C.ok 3 ∧ C.length = 3) := Lib.hid fun hk => by rw [← EC.out]; exact ⟨coneR_ok _ (HM4.out hk), rfl⟩
 have HIOK : Hid (coneE k = 0 → I.ok 3 ∧ I.length = 3 ∧ matrix.invE C = 0) := Lib.hid fun hk => by rw [← EI.out, ← EC.out]; exact ⟨inv_ok _ (HM4.out hk), rfl, (inv0 _ (HM4.out hk)).1⟩
 rw [hr]
 obtain ⟨er, Eer⟩ : ∃ y, Hid (matE k a b d = y) := ⟨_, Lib.hid rfl⟩
 rw [Eer.out] at he ⊢
 have HER := Lib.hid he
 rw [EC.out] at HCO
 rw [Eg.out, Ege.out] at HG
 obtain ⟨⟨⟨q1, q2⟩, ⟨q3, q4⟩, ⟨q5, q6⟩⟩, EG⟩ : ∃ y : light.Tri, Hid (tri3 g = y) := ⟨_, Lib.hid rfl⟩
 rw [EG.out] at HG
 have HDF : Hid (diagM (⟨⟨q1, q2⟩, ⟨q3, q4⟩, ⟨q5, q6⟩⟩ : light.Tri).list = (diagR g).fr) := Lib.hid (by rw [← EG.out]; exact diagR_fr g)
 have HDE : Hid (all3 g = true → diagE (⟨⟨q1, q2⟩, ⟨q3, q4⟩, ⟨q5, q6⟩⟩ : light.Tri).list = 0) := Lib.hid fun hg => by
  rw [← EG.out]
  unfold all3 at hg
  simp only [Bool.and_eq_true] at hg
  show chkL [Fr.of (g 0), Fr.of (g 1), Fr.of (g 2)] = 0
  unfold chkL
  simp [rd_of hg.1.1, rd_of hg.1.2, rd_of hg.2]
 obtain ⟨ce, Ece⟩ : ∃ y, Hid (coneE k = y) := ⟨_, Lib.hid rfl⟩
 rw [Ece.out] at HALL HM4 HCOK HIOK HCO
 obtain ⟨hk, ha, hb, hd⟩ := h
 obtain ⟨⟨a1, a2⟩, ⟨a3, a4⟩, ⟨a5, a6⟩⟩ := a
 obtain ⟨⟨b1, b2⟩, ⟨b3, b4⟩, ⟨b5, b6⟩⟩ := b
 obtain ⟨d1, d2⟩ := d
 unfold light.Tri.v light.Tri.cells Fr.v at HG
 unfold light.Tri.cells at ha hb
 have ck := hk.cell
 have ca := ha.cell
 have cb := hb.cell
 have cd := hd.cell
 have lk := hk.lt
 have la := ha.lt
 have lb := hb.lt
 have ld := hd.lt
 have EIC : Hid (matrix.invM C = I) := EI
 clear ht hc ha hb hd Eer EG he hs hr EC EI Eg Ege Ece
 go_enter Tryz.func35, Tryz.ntmps35
 go_wp2_with fail
 refine (HG.out _ (Below.refl _ _)).mono ?_
 rintro e w1 ⟨hb1, ⟨hg0, v, rfl, rfl⟩ | ⟨hge, rfl⟩⟩
 rotate_left
 ·have HE : Hid (er = ge) := Lib.hid (by rw [HER.out, if_pos hge])
  exact ⟨rfl, by rw [HE.out]; exact TryPost.no hb1 hge⟩
 obtain ⟨hce, hg3⟩ := HALL.out hg0
 subst hg0
 subst hce
 have HCK := Lib.hid (HCOK.out rfl)
 have HIK := Lib.hid (HIOK.out rfl)
 have HDO := Lib.hid (diagR_ok g hg3)
 have hde := HDE.out hg3
 replace HDE := Lib.hid hde
 have HER2 : Hid (er = if matrix.allQ S then (if matrix.allQ R then 0 else 6) else 6) := Lib.hid (by rw [HER.out, if_neg (by simp)])
 clear hde hg3 HCOK HIOK HER HALL HM4 HG ck ca cb cd
 replace hk := hk.later hb1
 have ck := hk.cell
 replace lk := hk.lt
 go_wp2_with fail
 have h12 : Below w1.heap.size w1 (w1.alloc (.cells #[.string q1, .string q2, .string q3, .string q4, .string q5, .string q6] 37)) := belA
 have hx := Box.new w1 #[.string q1, .string q2, .string q3, .string q4, .string q5, .string q6] 37
 obtain ⟨w2, Ew2⟩ : ∃ y, w1.alloc (.cells #[.string q1, .string q2, .string q3, .string q4, .string q5, .string q6] 37) = y := ⟨_, rfl⟩
 rw [Ew2] at h12 hx
 have hb2 : Below w.heap.size w w2 := Bt hb1 h12
 clear h12 hb1
 rw [Ew2]
 refine (HCO.out _ hb2).mono ?_
 rintro e w3 ⟨hb3, vc, rfl, hy1, -⟩
 have hmv := hy1 rfl
 obtain ⟨rs, hR, -⟩ := id hmv
 obtain ⟨ac, cc, rfl, -⟩ := hR
 obtain ⟨nc, Enc⟩ : ∃ y, rs.length = y := ⟨_, rfl⟩
 rw [Enc] at hmv
 have HC := Lib.hid hmv
 have HX := Lib.hid (hx.later hb3)
 have HB := Lib.hid (Bt hb2 hb3)
 clear hmv hy1 hx hb3 Ew2 HCO hb2
 go_wp2_with fail
 refine (needM_no _ _ _ _).mono ?_
 rintro e w4 ⟨rfl, rfl⟩
 have hI := matrix.Inverse_main _ C w4 HC.out (by rw [HCK.out.2]; exact HCK.out.1) (HT.out.later HB.out)
 rw [HIK.out.2.2, EIC.out] at hI
 have HIN := Lib.hid hI
 clear hI
 go_wp2_with fail
 refine HIN.out.mono ?_
 rintro e w5 ⟨hb5, vi, rfl, hy1, -⟩
 have hmv := hy1 rfl
 obtain ⟨rs2, hR, -⟩ := id hmv
 obtain ⟨ai, ci, rfl, -⟩ := hR
 obtain ⟨ni, Eni⟩ : ∃ y, rs2.length = y := ⟨_, rfl⟩
 rw [Eni] at hmv
 have HI := Lib.hid hmv
 replace HC := Lib.hid (HC.out.later hb5)
 replace HX := Lib.hid (HX.out.later hb5)
 replace HB := Lib.hid (Bt HB.out hb5)
 clear hmv hy1 hb5 HIN
 go_wp2_with fail
 refine (needM_no _ _ _ _).mono ?_
 rintro e w6 ⟨rfl, rfl⟩
 have hD := matrix.Diagonal_ok _ _ 37 w6 (light.Tri.frs (t := ⟨⟨q1, q2⟩, ⟨q3, q4⟩, ⟨q5, q6⟩⟩) HX.out)
 rw [HDE.out, HDF.out] at hD
 have HDG := Lib.hid hD
 clear hD
 have cx := HX.out.cell
 have lx := HX.out.lt
 go_wp2_with fail
 refine HDG.out.mono ?_
 rintro e w7 ⟨hb7, vd, rfl, hy1, -⟩
 have hmv := hy1 rfl
 obtain ⟨rs3, hR, -⟩ := id hmv
 obtain ⟨ad, cd, rfl, -⟩ := hR
 obtain ⟨nd, End⟩ : ∃ y, rs3.length = y := ⟨_, rfl⟩
 rw [End] at hmv
 have HD := Lib.hid hmv
 replace HC := Lib.hid (HC.out.later hb7)
 replace HI := Lib.hid (HI.out.later hb7)
 replace HB := Lib.hid (Bt HB.out hb7)
 clear hmv hy1 hb7 HDG cx lx HX
 go_wp2_with fail
 refine (needM_no _ _ _ _).mono ?_
 rintro e w8 ⟨rfl, rfl⟩
 have hM := matrix.mul_main _ _ I (diagR g) 3 w8 HI.out HD.out HIK.out.1 HDO.out (HT.out.later HB.out)
 rw [ES.out] at hM
 have HMU := Lib.hid hM
 clear hM
 go_wp2_with fail
 refine HMU.out.mono ?_
 rintro e w9 ⟨hb9, vs, rfl, hy1, hy2⟩
 clear HMU
 by_cases hs : matrix.allQ S = true
 rotate_left
 ·rw [if_neg hs] at hy1 hy2
  have hv := hy2 (by decide)
  subst hv
  have HE : Hid (er = 6) := Lib.hid (by rw [HER2.out, if_neg hs])
  rw [if_neg hs]
  have HB9 := Lib.hid (Bt HB.out hb9)
  clear hs hy1 hy2
  go_wp2_with fail
  refine (needM_yes _ _ _ 6 (by decide) _).mono ?_
  rintro e w10 ⟨rfl, rfl⟩
  exact ⟨rfl, by rw [HE.out]; exact TryPost.no HB9.out (by decide)⟩
 have HS := Lib.hid hs
 have HSO : Hid (S.ok 3) := Lib.hid (by
  rw [← ES.out] at hs ⊢
  exact mulQ_ok (by rw [HIK.out.2.1]; decide) (by rw [HIK.out.2.1]; decide) (by decide) (by decide) hs)
 rw [if_pos hs] at hy1 hy2
 rw [if_pos hs]
 have hmv := hy1 rfl
 obtain ⟨rs4, hR, -⟩ := id hmv
 obtain ⟨asl, csl, rfl, -⟩ := hR
 obtain ⟨ns, Ens⟩ : ∃ y, rs4.length = y := ⟨_, rfl⟩
 rw [Ens] at hmv ⊢
 have HSV := Lib.hid hmv
 replace HC := Lib.hid (HC.out.later hb9)
 replace HB := Lib.hid (Bt HB.out hb9)
 clear hmv hy1 hy2 hb9 hs
 go_wp2_with fail
 refine (needM_no _ _ _ _).mono ?_
 rintro e w10 ⟨rfl, rfl⟩
 have hM := matrix.mul_main _ _ S C 3 w10 HSV.out HC.out (by rw [HCK.out.2]; exact HSO.out) HCK.out.1 (HT.out.later HB.out)
 rw [ER.out] at hM
 have HMU := Lib.hid hM
 clear hM
 go_wp2_with fail
 refine HMU.out.mono ?_
 rintro e w11 ⟨hb11, vr, rfl, hy1, hy2⟩
 clear HMU
 have HB11 := Lib.hid (Bt HB.out hb11)
 by_cases hs : matrix.allQ R = true
 rotate_left
 ·rw [if_neg hs] at hy1 hy2
  have hv := hy2 (by decide)
  subst hv
  have HE : Hid (er = 6) := Lib.hid (by rw [HER2.out, if_pos HS.out, if_neg hs])
  rw [if_neg hs]
  clear hs hy1 hy2
  go_wp2_with fail
  refine (needM_yes _ _ _ 6 (by decide) _).mono ?_
  rintro e w12 ⟨rfl, rfl⟩
  exact ⟨rfl, by rw [HE.out]; exact TryPost.no HB11.out (by decide)⟩
 have HE : Hid (er = 0) := Lib.hid (by rw [HER2.out, if_pos HS.out, if_pos hs])
 rw [if_pos hs] at hy1 hy2
 rw [if_pos hs]
 have hmv := hy1 rfl
 obtain ⟨rs5, hR, -⟩ := id hmv
 obtain ⟨ar, cr, rfl, -⟩ := hR
 obtain ⟨nr, Enr⟩ : ∃ y, rs5.length = y := ⟨_, rfl⟩
 rw [Enr] at hmv ⊢
 have HRV := Lib.hid hmv
 clear hmv hy1 hy2 hs hb11
 go_wp2_with fail
 refine (needM_no _ _ _ _).mono ?_
 rintro e w12 ⟨rfl, rfl⟩
 go_wp2_with fail
 go_ret
 rw [HE.out]
 exact TryPost.yes HB11.out HRV.out
end Go.Proofs.adapt
namespace Go.Proofs.adapt
open Go Go.RowKit Go.SW Go.Num Go.Mem Go.Proofs Go.Dec Go.Fra
set_option maxRecDepth 10000 in
set_option maxHeartbeats 1000000 in
theorem Matrix_ok (k : Int) (a b : light.Tri) (d : Fr) (w : World) (ht : Bld.Pow w) (hc : Cones w) :
  Calls Tryz.prog 13 #[.int .i64 k, a.v, b.v, d.v] w (MatPost w (matE k a b d) (matR k a b d).fr) := by
 have hmf : ∀ (fn : Fn) (first cap : Array Value) (w : World), (Instr.makeFunc fn first cap).run Tryz.prog w = .ok (.func fn first cap) w := fun _ _ _ _ => rfl
 obtain ⟨w0, Ew0⟩ : ∃ y, (((w.alloc (.cells #[.int .i64 k] 3)).alloc (.cells a.cells 38)).alloc (.cells b.cells 38)).alloc (.cells #[.string d.n, .string d.d] 36) = y := ⟨_, rfl⟩
 have hb0 : Below w.heap.size w w0 := by rw [← Ew0]; exact belA
 have hA : ArgsAt w0 w.heap.size (w.heap.size + 1) (w.heap.size + 1 + 1) (w.heap.size + 1 + 1 + 1) k a b d := by
  rw [← Ew0]
  exact ⟨boxA, boxA, boxA, Box.at3 _ _ _ _ _ _⟩
 obtain ⟨er, Eer⟩ : ∃ y, Hid (matE k a b d = y) := ⟨_, Lib.hid rfl⟩
 obtain ⟨R, ER⟩ : ∃ y, Hid ((matR k a b d).fr = y) := ⟨_, Lib.hid rfl⟩
 have hat := attemptM_ok 35 #[.pointer (some ⟨w.heap.size, 0, none⟩), .pointer (some ⟨w.heap.size + 1, 0, none⟩), .pointer (some ⟨w.heap.size + 1 + 1, 0, none⟩), .pointer (some ⟨w.heap.size + 1 + 1 + 1, 0, none⟩)] (matE k a b d) (matR k a b d).fr w0
  (fun W hW => matrix1_ok _ _ _ _ k a b d W (hA.later hW) ((ht.later hb0).later hW) ((hc.later hb0).later hW)) (fun args W => enters_of Tryz.func35 (by kernel_rfl) rfl args W)
 rw [Eer.out, ER.out] at hat ⊢
 have HAT := Lib.hid hat
 obtain ⟨⟨a1, a2⟩, ⟨a3, a4⟩, ⟨a5, a6⟩⟩ := a
 obtain ⟨⟨b1, b2⟩, ⟨b3, b4⟩, ⟨b5, b6⟩⟩ := b
 obtain ⟨d1, d2⟩ := d
 unfold light.Tri.cells at Ew0
 simp only at Ew0
 clear hat ht hc hA Eer ER
 go_enter Tryz.func13, Tryz.ntmps13
 unfold light.Tri.v light.Tri.cells Fr.v
 go_wp2_with fail
 clear Ew0
 refine HAT.out.mono ?_
 rintro e w1 ⟨hb1, v, rfl, hv1, hv2⟩
 have HV : Hid (MatPost w er R (.returned (.tuple #[v, .int .i64 er])) w1) := Lib.hid ⟨Bt hb0 hb1, v, rfl, hv1, hv2⟩
 clear hv1 hv2 HAT
 go_wp2_with fail
 go_ret2
 exact HV.out
end Go.Proofs.adapt
namespace Go.Proofs.adapt
open Go Go.RowKit Go.SW Go.Num Go.Mem Go.Proofs Go.Dec Go.Fra
/-- A matrix of texts as numbers. -/
def mQ (m : List (List Fr)) : matrix.RM := m.map fun r => r.map qF
theorem rowQ {r : List Fr} (h : chkL r = 0) : r = (r.map qF).map Fr.of ∧ ∀ q ∈ r.map qF, okq q = true := by
 unfold chkL at h
 split at h
 ·rename_i hh
  rw [List.all_eq_true] at hh
  refine ⟨?_, fun q hq => ?_⟩
  ·rw [List.map_map]
   conv => lhs; rw [← List.map_id r]
   exact List.map_congr_left fun a ha => (qF_of (hh a ha)).1
  ·obtain ⟨a, ha, rfl⟩ := List.mem_map.1 hq
   exact (qF_of (hh a ha)).2
 ·cases h
theorem mQ_of {m : List (List Fr)} (h : chkM m = 0) : m = (mQ m).fr ∧ (mQ m).ok (m.headD []).length := by
 unfold chkM at h
 split at h
 ·rename_i hh
  unfold okM at hh
  simp only [Bool.and_eq_true, decide_eq_true_eq, List.all_eq_true, beq_iff_eq] at hh
  obtain ⟨⟨⟨⟨h1, h2⟩, h3⟩, h4⟩, h5⟩ := hh
  refine ⟨?_, by simpa [mQ] using h1, by simpa [mQ] using h2, h3, h4, fun r hr => ?_⟩
  ·unfold mQ matrix.RM.fr
   rw [List.map_map]
   conv => lhs; rw [← List.map_id m]
   exact List.map_congr_left fun r hr => (rowQ (h5 r hr).2).1
  ·obtain ⟨r', hr', rfl⟩ := List.mem_map.1 hr
   exact ⟨by simpa using (h5 r' hr').1, (rowQ (h5 r' hr').2).2⟩
 ·cases h
def adaptE (m : List (List Fr)) (t : light.Tri) : Int :=
 if chkM m ≠ 0 then chkM m else if light.chkT t ≠ 0 then light.chkT t else if m.length ≠ 3 ∨ (m.headD []).length ≠ 3 then 2 else if all3 (seenQ (mQ m) (qT t)) then 0 else 6
def adaptT (m : List (List Fr)) (t : light.Tri) : light.Tri := tri3 (seenQ (mQ m) (qT t))
theorem chkT_of {t : light.Tri} (h : light.chkT t = 0) : t = tri3 (qT t) ∧ all3 (qT t) = true := by
 unfold light.chkT at h
 by_cases hc : chkL t.list = 0
 ·exact qT_of hc
 ·rw [if_neg hc] at h; cases h
set_option maxRecDepth 100000 in
set_option maxHeartbeats 4000000 in
theorem adapt1_ok (pm pt : Nat) (va : Value) (m : List (List Fr)) (t : light.Tri) (w : World) (hp : Box w pm #[va] 44) (hm : MatV w va m) (hpt : Box w pt t.cells 38) (ht : Bld.Pow w) :
  Calls Tryz.prog 48 #[.pointer (some ⟨pm, 0, none⟩), .pointer (some ⟨pt, 0, none⟩)] w (TryPost w (adaptE m t) (fun v _ => v = (adaptT m t).v)) := by
 have HCM := Lib.hid (fun w' (hb : Below w.heap.size w w') => matrix.Check_ok va m w' (hm.later hb))
 have HCT := Lib.hid (fun w' => light.Check_ok t w')
 have HT := Lib.hid ht
 have HMV := Lib.hid hm
 have HE : Hid (adaptE m t = if chkM m ≠ 0 then chkM m else if light.chkT t ≠ 0 then light.chkT t else if m.length ≠ 3 ∨ (m.headD []).length ≠ 3 then 2 else if all3 (seenQ (mQ m) (qT t)) then 0 else 6) := Lib.hid rfl
 have HMQ : Hid (chkM m = 0 → m = (mQ m).fr ∧ (mQ m).ok (m.headD []).length) := Lib.hid mQ_of
 have HTQ : Hid (light.chkT t = 0 → t = tri3 (qT t) ∧ all3 (qT t) = true) := Lib.hid chkT_of
 obtain ⟨er, Eer⟩ : ∃ y, Hid (adaptE m t = y) := ⟨_, Lib.hid rfl⟩
 obtain ⟨cm, Ecm⟩ : ∃ y, Hid (chkM m = y) := ⟨_, Lib.hid rfl⟩
 obtain ⟨ct, Ect⟩ : ∃ y, Hid (light.chkT t = y) := ⟨_, Lib.hid rfl⟩
 obtain ⟨f, Ef⟩ : ∃ y, Hid (qT t = y) := ⟨_, Lib.hid rfl⟩
 obtain ⟨M, EM⟩ : ∃ y, Hid (mQ m = y) := ⟨_, Lib.hid rfl⟩
 obtain ⟨g, Eg⟩ : ∃ y, Hid (seenQ M f = y) := ⟨_, Lib.hid rfl⟩
 have hag : adaptT m t = tri3 g := by unfold adaptT; rw [EM.out, Ef.out, Eg.out]
 rw [hag, Eer.out]
 rw [Eer.out, Ecm.out, Ect.out, EM.out, Ef.out, Eg.out] at HE
 rw [Ecm.out] at HCM HMQ
 rw [EM.out] at HMQ
 rw [Ect.out] at HCT HTQ
 rw [Ef.out] at HTQ
 obtain ⟨tt, Ett⟩ : ∃ y : light.Tri, Hid (t = y) := ⟨_, Lib.hid rfl⟩
 rw [Ett.out] at HCT hpt HTQ
 obtain ⟨rs, hR, hrl, -⟩ := id hm
 obtain ⟨am, cam, rfl, -⟩ := hR
 obtain ⟨n, En⟩ : ∃ y, rs.length = y := ⟨_, rfl⟩
 rw [En] at hrl HMV HCM hp
 obtain ⟨⟨a1, a2⟩, ⟨a3, a4⟩, ⟨a5, a6⟩⟩ := tt
 unfold light.Tri.v light.Tri.cells at HCT
 unfold light.Tri.cells at hpt
 have h0 : Below w.heap.size w (w.alloc (.cells #[.string ⟨#[]⟩, .string ⟨#[]⟩, .string ⟨#[]⟩, .string ⟨#[]⟩, .string ⟨#[]⟩, .string ⟨#[]⟩] 38)) := belA
 have hx := Box.new w #[.string ⟨#[]⟩, .string ⟨#[]⟩, .string ⟨#[]⟩, .string ⟨#[]⟩, .string ⟨#[]⟩, .string ⟨#[]⟩] 38
 obtain ⟨b2, Eb2⟩ : ∃ y, w.heap.size = y := ⟨_, rfl⟩
 have cp := hp.cell
 have lp := hp.lt
 have lpt := hpt.lt
 have HRL := Lib.hid hrl
 have HP := Lib.hid hp
 have HPT := Lib.hid hpt
 have HX := Lib.hid hx
 clear hp hpt hx hm ht Eer Ecm Ect Ef EM Ett hag hrl En Eb2
 go_enter Tryz.func48, Tryz.ntmps48
 go_wp2_with fail
 refine (HCM.out _ h0).mono ?_
 rintro e w1 ⟨rfl, hb1⟩
 have h1 : Below w.heap.size w w1 := Bt h0 hb1
 by_cases hcm : cm = 0
 rotate_left
 ·have HE6 : Hid (er = cm) := Lib.hid (by rw [HE.out, if_pos hcm])
  go_wp2_with fail
  refine (stop_yes cm hcm _).mono ?_
  rintro e w2 ⟨rfl, rfl⟩
  exact ⟨rfl, by rw [HE6.out]; exact TryPost.no h1 hcm⟩
 subst hcm
 replace HX := Lib.hid (HX.out.later hb1)
 replace HP := Lib.hid (HP.out.later h1)
 replace HPT := Lib.hid (HPT.out.later h1)
 have cpt := HPT.out.cell
 replace lpt := HPT.out.lt
 clear cp lp
 go_wp2_with fail
 refine (stop_no _).mono ?_
 rintro e w2 ⟨rfl, rfl⟩
 go_wp2_with fail
 refine (HCT.out _).mono ?_
 rintro e w3 ⟨rfl, hb3⟩
 have h3 : Below w.heap.size w w3 := Bt h1 hb3
 by_cases hct : ct = 0
 rotate_left
 ·have HE6 : Hid (er = ct) := Lib.hid (by rw [HE.out, if_neg (by simp), if_pos hct])
  go_wp2_with fail
  refine (stop_yes ct hct _).mono ?_
  rintro e w4 ⟨rfl, rfl⟩
  exact ⟨rfl, by rw [HE6.out]; exact TryPost.no h3 hct⟩
 subst hct
 replace HX := Lib.hid (HX.out.later hb3)
 replace HP := Lib.hid (HP.out.later hb3)
 replace HPT := Lib.hid (HPT.out.later hb3)
 obtain ⟨hmq, hok⟩ := HMQ.out (by first | rfl | trivial)
 have HOK := Lib.hid hok
 have hmv := HMV.out.later h3
 rw [hmq] at hmv
 obtain ⟨b, off, cap, a0, cap0, e, lb, hc0⟩ := matrix.MatV.head hmv hok.1
 have hhd : (M.headD []).length = (m.headD []).length := by
  rw [hmq]
  cases M with
  | nil => rfl
  | cons r t => simp [matrix.RM.fr]
 rw [hhd] at hc0
 have HMV3 := Lib.hid hmv
 clear hmv cpt lpt hok hmq
 simp only [Value.slice.injEq] at e
 obtain ⟨rfl, hnM, rfl⟩ := e
 have HNM := Lib.hid hnM
 obtain ⟨nh, Enh⟩ : ∃ y, Hid ((m.headD []).length = y) := ⟨_, Lib.hid rfl⟩
 rw [Enh.out] at HOK hc0 HE
 rw [← HRL.out] at HE
 have HE2 : Hid (er = if n ≠ 3 ∨ nh ≠ 3 then 2 else if all3 g = true then 0 else 6) := Lib.hid (by rw [HE.out, if_neg (by simp), if_neg (by simp)])
 have cp := HP.out.cell
 have lp := HP.out.lt
 clear hnM hhd HE HMV HCM HMQ HCT hb1 h0 h1 Enh
 go_wp2_with fail
 refine (stop_no _).mono ?_
 rintro e w4 ⟨rfl, rfl⟩
 by_cases hn : n = 3
 rotate_left
 ·have HE6 : Hid (er = 2) := Lib.hid (by rw [HE2.out, if_pos (.inl hn)])
  have b1 : ((n : Int) != 3) = true := by simp; omega
  clear hn
  go_wp2_with fail
  refine (stop_yes 2 (by decide) _).mono ?_
  rintro e w5 ⟨rfl, rfl⟩
  exact ⟨rfl, by rw [HE6.out]; exact TryPost.no h3 (by decide)⟩
 subst hn
 by_cases hnh : nh = 3
 rotate_left
 ·have HE6 : Hid (er = 2) := Lib.hid (by rw [HE2.out, if_pos (.inr hnh)])
  have b1 : ((nh : Int) != 3) = true := by simp; omega
  clear hnh
  go_wp2_with fail
  refine (stop_yes 2 (by decide) _).mono ?_
  rintro e w5 ⟨rfl, rfl⟩
  exact ⟨rfl, by rw [HE6.out]; exact TryPost.no h3 (by decide)⟩
 subst hnh
 have HE3 : Hid (er = if all3 g = true then 0 else 6) := Lib.hid (by rw [HE2.out, if_neg (by simp)])
 clear HE2
 have HX2 : Hid (w.heap.size < w4.heap.size) := Lib.hid HX.out.lt
 obtain ⟨htq, hall⟩ := HTQ.out (by first | rfl | trivial)
 have hl3 : (list3 f).map Fr.of = [⟨a1, a2⟩, ⟨a3, a4⟩, ⟨a5, a6⟩] := by
  show (tri3 f).list = _
  rw [← htq]
  rfl
 have hq : ∀ q ∈ list3 f, okq q = true := by
  unfold all3 at hall
  simp only [Bool.and_eq_true] at hall
  intro q hq
  simp only [list3, List.mem_cons, List.not_mem_nil, or_false] at hq
  rcases hq with rfl | rfl | rfl
  ·exact hall.1.1
  ·exact hall.1.2
  ·exact hall.2
 have hap := fun vl (T : TypeId) w' (hb : Below w4.heap.size w4 w') (hl : Frs w' T vl ((list3 f).map Fr.of)) => matrix.apply_main (.slice (some ⟨b, off, none⟩) 3 cam) vl M (list3 f) T w' (HMV3.out.later hb) hl HOK.out hq (HT.out.later (Bt h3 hb))
 have hml : (M.map fun r => dotQ r (list3 f)) = list3 (seenQ M f) := by
  have h3 := HNM.out.symm
  match M, h3 with
  | [r1, r2, r3], _ => rfl
 rw [hml, Eg.out, hl3] at hap
 have HAP := Lib.hid hap
 have HALL : Hid ((list3 g).all okq = all3 g) := Lib.hid (by simp [list3, all3, Bool.and_assoc])
 have HER : Hid ((if all3 g then 0 else 6) = er) := Lib.hid HE3.out.symm
 go_wp2_with fail
 obtain ⟨w0, Ew0⟩ : ∃ y, w4.alloc (.cells #[.string ⟨#[]⟩, .string ⟨#[]⟩, .string ⟨#[]⟩, .string ⟨#[]⟩, .string ⟨#[]⟩, .string ⟨#[]⟩] 38) = y := ⟨_, rfl⟩
 have hb0 : Below w4.heap.size w4 w0 := by rw [← Ew0]; exact belA
 have hx0 : Box w0 pt #[.string a1, .string a2, .string a3, .string a4, .string a5, .string a6] 38 := HPT.out.later hb0
 have hx1 : Box w0 w.heap.size #[.string ⟨#[]⟩, .string ⟨#[]⟩, .string ⟨#[]⟩, .string ⟨#[]⟩, .string ⟨#[]⟩, .string ⟨#[]⟩] 38 := HX.out.later hb0
 have hx2 : Box w0 w4.heap.size #[.string ⟨#[]⟩, .string ⟨#[]⟩, .string ⟨#[]⟩, .string ⟨#[]⟩, .string ⟨#[]⟩, .string ⟨#[]⟩] 38 := by rw [← Ew0]; exact boxA
 have hxp : Box w0 pm #[.slice (some ⟨b, off, none⟩) 3 cam] 44 := HP.out.later hb0
 rw [Ew0]
 clear Ew0 hap hml hq hall htq hl3 hc0 cp lp HE3 HTQ HRL HNM HMV3 HOK HP HPT HX hb3 Eg
 have cp := hxp.cell
 have lp := hxp.lt
 have hlw : w.heap.size < w4.heap.size := HX2.out
 refine wp_region_walk [(.pure, 0), (.read, 1), (.pure, 2), (.ext, 3), (.pure, 4), (.pure, 5), (.ext, 6), (.fin, 7)] (by kernel_rfl) (by kernel_rfl) (allocRuns_of (by kernel_rfl)) (fun _ _ _ _ hd h => And.intro (hd.trans (And.left h)) (And.right h)) ?_
 repeat (first | (refine walk_pure0 rfl rfl (fun J hJ => ?_); go_simp; refine hJ _ ?_; clear hJ J) | (refine walk_load rfl rfl rfl rfl (fun J hJ => ?_); go_simp; refine hJ _ ?_; clear hJ J; try go_simp))
 refine walk_ext rfl rfl (fun w1 hb1 J hJ => ?_); go_simp
 have h01 : Below w0.heap.size w0 w1 := belA
 refine (HAP.out _ 38 w1 (Bt hb0 h01) (light.Tri.frs (t := ⟨⟨a1, a2⟩, ⟨a3, a4⟩, ⟨a5, a6⟩⟩) (hx0.later h01))).mono ?_
 rintro e w2 (⟨hy, vo, rfl, hb2, hfr⟩ | ⟨hy, rfl, hb2⟩)
 ·rw [HALL.out] at hy
  refine hJ _ _ hb2 ?_
  clear hJ J
  obtain ⟨⟨s1, s2⟩, E1⟩ : ∃ x : Fr, Hid (Fr.of (g 0) = x) := ⟨_, Lib.hid rfl⟩
  obtain ⟨⟨s3, s4⟩, E2⟩ : ∃ x : Fr, Hid (Fr.of (g 1) = x) := ⟨_, Lib.hid rfl⟩
  obtain ⟨⟨s5, s6⟩, E3⟩ : ∃ x : Fr, Hid (Fr.of (g 2) = x) := ⟨_, Lib.hid rfl⟩
  have hl : (list3 g).map Fr.of = [⟨s1, s2⟩, ⟨s3, s4⟩, ⟨s5, s6⟩] := by
   show [Fr.of (g 0), Fr.of (g 1), Fr.of (g 2)] = _
   rw [E1.out, E2.out, E3.out]
  have hv : (tri3 g).v = .agg #[.string s1, .string s2, .string s3, .string s4, .string s5, .string s6] := by
   unfold tri3
   rw [E1.out, E2.out, E3.out]
   rfl
  rw [hl] at hfr
  have HVV := Lib.hid hv
  have HE0 : Hid (er = 0) := Lib.hid (by rw [← HER.out, hy]; rfl)
  obtain ⟨ao, co, rfl, -⟩ := hfr.read
  obtain ⟨-, bb, oo, rfl, lbb, hcell⟩ := Frs.cells hfr (by simp)
  have hc0 := hcell 0 (by simp)
  have hc1 := hcell 1 (by simp)
  have hc2 := hcell 2 (by simp)
  simp only [List.getElem_cons_zero, List.getElem_cons_succ, Nat.zero_mul, Nat.add_zero] at hc0 hc1 hc2
  clear hl hv hfr hcell hy
  repeat (first | (refine walk_pure0 rfl rfl (fun J hJ => ?_); go_simp; refine hJ _ ?_; clear hJ J) | (refine walk_load rfl rfl rfl rfl (fun J hJ => ?_); go_simp; refine hJ _ ?_; clear hJ J; try go_simp))
  refine walk_ext rfl rfl (fun w3 hb3 J hJ => ?_); go_simp
  refine (needL_no _ _ _ w3).mono ?_
  rintro e w7 ⟨rfl, rfl⟩
  refine hJ _ _ (Below.refl _ _) ?_
  clear hJ J
  refine walk_fin [_] rfl (fun w5 hb5 => ?_)
  have h25 : Below w2.heap.size w2 w5 := belA
  have h05 : Below w0.heap.size w0 w5 := Bt (Bt h01 hb2) h25
  have k1 := (h25.cell (p := ⟨bb, oo, none⟩) lbb).trans hc0.1
  have k2 := (h25.cell (p := ⟨bb, oo + 1, none⟩) lbb).trans hc0.2
  have k3 := (h25.cell (p := ⟨bb, oo + 1 * 2, none⟩) lbb).trans hc1.1
  have k4 := (h25.cell (p := ⟨bb, oo + 1 * 2 + 1, none⟩) lbb).trans hc1.2
  have k5 := (h25.cell (p := ⟨bb, oo + 2 * 2, none⟩) lbb).trans hc2.1
  have k6 := (h25.cell (p := ⟨bb, oo + 2 * 2 + 1, none⟩) lbb).trans hc2.2
  have hy2 := hx2.later h05
  have hcp : ∀ ty, (Builtin.copy_ #[56, 56] ty #[.slice (some ⟨w4.heap.size, 0, none⟩) 3 3, .slice (some ⟨bb, oo, none⟩) 3 co]).run Tryz.prog w5 = .ok (goInt 3) (w5.setRow (w4.heap.size) #[.string s1, .string s2, .string s3, .string s4, .string s5, .string s6]) := fun ty => by
   obtain ⟨i0, hi, hz0, hz1, hz2⟩ := info_parts matrix.infoFr
   exact matrix.run_copy_elems Tryz.prog w5 56 56 ty 36 (w4.heap.size) 0 3 3 2 ⟨bb, oo, none⟩ 3 co #[.string ⟨#[]⟩, .string ⟨#[]⟩, .string ⟨#[]⟩, .string ⟨#[]⟩, .string ⟨#[]⟩, .string ⟨#[]⟩] 38 [.string s1, .string s2, .string s3, .string s4, .string s5, .string s6] Tryz.underlying56 (by rw [hi]; simp [hz1]) hy2 rfl (fun j v hv => by
    rw [Addr.add_lit]
    match j, hv with
    | 0, hv => cases hv; exact k1
    | 1, hv => cases hv; exact k2
    | 2, hv => cases hv; exact k3
    | 3, hv => cases hv; exact k4
    | 4, hv => cases hv; exact k5
    | 5, hv => cases hv; exact k6) (by simp) (by intro v hv; simp at hv; rcases hv with rfl | rfl | rfl | rfl | rfl | rfl <;> rfl)
  obtain ⟨w6, Ew6⟩ : ∃ y, w5.setRow (w4.heap.size) #[.string s1, .string s2, .string s3, .string s4, .string s5, .string s6] = y := ⟨_, rfl⟩
  have hz2 : Box w6 (w4.heap.size) #[.string s1, .string s2, .string s3, .string s4, .string s5, .string s6] 38 := by rw [← Ew6]; exact setRow_heap _ _ _ _ _ _ hy2
  have hw6 : Below w4.heap.size w4 w6 := by rw [← Ew6]; exact below_setRow (Bt hb0 h05) (by omega) _
  have hz1 : Box w6 (w.heap.size) #[.string ⟨#[]⟩, .string ⟨#[]⟩, .string ⟨#[]⟩, .string ⟨#[]⟩, .string ⟨#[]⟩, .string ⟨#[]⟩] 38 := by
   rw [← Ew6]
   have := hx1.later h05
   unfold Box at *
   rw [setRow_other _ _ _ _ (by omega)]
   exact this
  rw [Ew6] at hcp
  have c2 := hz2.cell
  have c1 := hz1.cell
  have f1 := hz1.free
  have HZ2 := Lib.hid hz2
  have HW6 := Lib.hid (Bt h3 hw6)
  clear k1 k2 k3 k4 k5 k6 hc0 hc1 hc2 hy2 Ew6 hx0 hx1 hx2 hb0 hb1 h01 hb2 hb3 hb5 h25 h05 hz2
  go_wp2_with fail
  refine ret_c rfl rfl ((((((hz1.set 0 _).set 1 _).set 2 _).set 3 _).set 4 _).set 5 _) Tryz.underlying38 rfl (by kernel_rfl) ?_
  rw [HE0.out]
  exact TryPost.yes ((((((HW6.out.setCell (Nat.le_refl _) _).setCell (Nat.le_refl _) _).setCell (Nat.le_refl _) _).setCell (Nat.le_refl _) _).setCell (Nat.le_refl _) _).setCell (Nat.le_refl _) _) (by rw [HVV.out]; rfl)
 ·rw [HALL.out] at hy
  have HVE : Hid (er = 6) := Lib.hid (by rw [← HER.out, hy]; rfl)
  refine hJ _ _ hb2 ?_
  clear hJ J hy
  repeat (first | (refine walk_pure0 rfl rfl (fun J hJ => ?_); go_simp; refine hJ _ ?_; clear hJ J) | (refine walk_load rfl rfl rfl rfl (fun J hJ => ?_); go_simp; refine hJ _ ?_; clear hJ J; try go_simp))
  refine walk_ext rfl rfl (fun w3 hb3 J hJ => ?_); go_simp
  refine (needL_yes _ _ _ 6 (by decide) w3).mono ?_
  rintro e w7 ⟨rfl, rfl⟩
  exact ⟨rfl, by rw [HVE.out]; exact TryPost.no (Bt h3 (Bt (Bt (Bt hb0 h01) hb2) belA)) (by decide)⟩
end Go.Proofs.adapt
namespace Go.Proofs.adapt
open Go Go.RowKit Go.SW Go.Num Go.Mem Go.Proofs Go.Dec Go.Fra
set_option maxRecDepth 10000 in
set_option maxHeartbeats 1000000 in
theorem Adapt_ok (va : Value) (m : List (List Fr)) (t : light.Tri) (w : World) (hm : MatV w va m) (ht : Bld.Pow w) :
  Calls Tryz.prog 20 #[va, t.v] w (TriPost w (adaptE m t) (adaptT m t)) := by
 have hmf : ∀ (fn : Fn) (first cap : Array Value) (w : World), (Instr.makeFunc fn first cap).run Tryz.prog w = .ok (.func fn first cap) w := fun _ _ _ _ => rfl
 obtain ⟨rs, hR, -⟩ := id hm
 obtain ⟨am, cam, rfl, -⟩ := hR
 obtain ⟨n, En⟩ : ∃ y, rs.length = y := ⟨_, rfl⟩
 rw [En] at hm ⊢
 obtain ⟨w0, Ew0⟩ : ∃ y, ((w.alloc (.cells #[.slice am n cam] 44)).alloc (.cells t.cells 38)).alloc (.cells #[.string ⟨#[]⟩, .string ⟨#[]⟩, .string ⟨#[]⟩, .string ⟨#[]⟩, .string ⟨#[]⟩, .string ⟨#[]⟩] 38) = y := ⟨_, rfl⟩
 have hb0 : Below w.heap.size w w0 := by rw [← Ew0]; exact belA
 have hA : Box w0 w.heap.size #[.slice am n cam] 44 := by rw [← Ew0]; exact boxA
 have hB : Box w0 (w.heap.size + 1) t.cells 38 := by rw [← Ew0]; exact boxA
 have hr0 : Box w0 (w.heap.size + 1 + 1) #[.string ⟨#[]⟩, .string ⟨#[]⟩, .string ⟨#[]⟩, .string ⟨#[]⟩, .string ⟨#[]⟩, .string ⟨#[]⟩] 38 := by rw [← Ew0]; exact boxA
 obtain ⟨er, Eer⟩ : ∃ y, Hid (adaptE m t = y) := ⟨_, Lib.hid rfl⟩
 obtain ⟨g, Eg⟩ : ∃ y : light.Tri, Hid (adaptT m t = y) := ⟨_, Lib.hid rfl⟩
 have hat := attemptT_ok 48 #[.pointer (some ⟨w.heap.size, 0, none⟩), .pointer (some ⟨w.heap.size + 1, 0, none⟩)] (adaptE m t) (adaptT m t) w0
  (fun W hW => adapt1_ok _ _ _ m t W (hA.later hW) ((hm.later hb0).later hW) (hB.later hW) ((ht.later hb0).later hW)) (fun args W => enters_of Tryz.func48 (by kernel_rfl) rfl args W)
 rw [Eer.out, Eg.out] at hat ⊢
 have HAT := Lib.hid hat
 obtain ⟨gg, Egg⟩ : ∃ y : light.Tri, Hid ((if er = 0 then g else noTri) = y) := ⟨_, Lib.hid rfl⟩
 obtain ⟨⟨a1, a2⟩, ⟨a3, a4⟩, ⟨a5, a6⟩⟩ := t
 unfold light.Tri.cells at Ew0
 simp only at Ew0
 have HR : Hid (TriPost w er g = fun e w' => Below w.heap.size w w' ∧ e = .returned (.tuple #[gg.v, .int .i64 er])) := Lib.hid (by unfold TriPost; rw [Egg.out])
 have HR0 : Hid (TriPost w0 er g = fun e w' => Below w0.heap.size w0 w' ∧ e = .returned (.tuple #[gg.v, .int .i64 er])) := Lib.hid (by unfold TriPost; rw [Egg.out])
 rw [HR.out]
 rw [HR0.out] at HAT
 obtain ⟨⟨g1, g2⟩, ⟨g3, g4⟩, ⟨g5, g6⟩⟩ := gg
 unfold light.Tri.v light.Tri.cells at HAT ⊢
 clear hat ht hm hA hB HR HR0 Egg Eer Eg En
 go_enter Tryz.func20, Tryz.ntmps20
 go_wp2_with fail
 clear Ew0
 refine HAT.out.mono ?_
 rintro e w1 ⟨hb1, rfl⟩
 have hr1 := hr0.later hb1
 have cr := hr1.cell
 have fr := hr1.free
 clear HAT
 go_wp2_with fail
 refine ret_ct rfl rfl ((((((hr1.set 0 _).set 1 _).set 2 _).set 3 _).set 4 _).set 5 _) Tryz.underlying38 rfl (by kernel_rfl) ?_
 have hw := Bt hb0 hb1
 have hsz : w.heap.size ≤ w.heap.size + 1 + 1 := by omega
 exact ⟨(((((hw.setCell hsz _).setCell hsz _).setCell hsz _).setCell hsz _).setCell hsz _).setCell hsz _, rfl⟩
end Go.Proofs.adapt
namespace Go.Proofs.YtddblpggomphpaaGreatDoor
open Go Go.RowKit Go.Proofs
theorem chunks {α : Type} (c : Nat) : ∀ (n : Nat) (cs : List α), cs.length = n * c → cs = (List.range n).flatMap fun i => (cs.drop (i * c)).take c
 | 0, cs, h => by
  have : cs = [] := List.length_eq_zero_iff.1 (by simpa using h)
  subst this; rfl
 | n + 1, cs, h => by
  have hd : (cs.drop c).length = n * c := by rw [List.length_drop, h, Nat.succ_mul]; omega
  have ih := chunks c n (cs.drop c) hd
  rw [List.range_succ_eq_map, List.flatMap_cons, List.flatMap_map]
  simp only [Nat.zero_mul, List.drop_zero]
  conv => lhs; rw [← List.take_append_drop c cs]
  congr 1
  conv => lhs; rw [ih]
  congr 1
  funext i
  rw [List.drop_drop, Nat.succ_mul, Nat.add_comm]
/-- An array whose elements are read reads as their cells. -/
theorem cells_of_rows {H : Type} {enc : TypeId × Value → H} {P : Program} {w : World} {base : Nat} {sp : Nat → Bool} {held : Bool} {fuel : Nat} {t e : TypeId} {n : Nat} {k : IntKind} {cs : List Value} {p : List MemPlace}
  (D : List Int → DataW H) (zss : List (List Int)) (ht : P.underlying t = some (.array n e)) (hc : P.cellsOf t = n * P.cellsOf e)
  (hin : ∀ fuel cs zs p, DataW.trod enc P w base sp held fuel e cs = some (D zs, p) → cs = zs.map fun z => Value.int k z)
  (h : DataW.trod enc P w base sp held fuel t cs = some (.agg (zss.map D), p)) : cs = zss.flatten.map fun z => Value.int k z := by
 obtain ⟨xs, m, rfl, hx, hl, hn, hel⟩ := DataW.trod_array ht h
 simp only [Prod.mk.injEq, DataW.agg.injEq] at hx
 have hz : zss.length = n := by
  have := congrArg List.length hx.1
  simpa [hn] using this
 have hk : ∀ i (h : i < zss.length), (cs.drop (i * P.cellsOf e)).take (P.cellsOf e) = zss[i].map fun z => Value.int k z := fun i hi => by
  have h1 := hel i (by omega)
  have hxi : i < xs.length := by omega
  rw [List.getElem?_eq_getElem hxi] at h1
  have h2 : xs[i].1 = D zss[i] := by
   have h3 := congrArg (·[i]?) hx.1
   simp only [List.getElem?_map, List.getElem?_eq_getElem hi, List.getElem?_eq_getElem hxi, Option.map_some, Option.some.injEq] at h3
   exact h3.symm
  exact hin m _ _ xs[i].2 (by rw [h1, ← h2])
 rw [chunks (P.cellsOf e) n cs (by rw [hl, hc]), List.map_flatten, ← hz]
 have hr : zss = (List.range zss.length).map fun i => zss.getD i [] := by
  apply List.ext_getElem
  ·simp
  ·intro i h1 h2; simp [h1]
 conv => rhs; rw [hr]
 rw [List.map_map, List.flatMap_def]
 congr 1
 refine List.map_congr_left fun i hi => ?_
 have hi' : i < zss.length := List.mem_range.1 hi
 rw [hk i hi']
 simp [hi']
theorem gPow : Tryz.prog.globalNamed "internal/strconv.uint64pow10" = some 1 := by kernel_rfl
theorem gCones : Tryz.prog.globalNamed "verdigris/adapt.cones" = some 0 := by kernel_rfl
theorem tPow : (Tryz.prog.globals[1]?).map (·.type) = some 290 := by kernel_rfl
theorem tCones : (Tryz.prog.globals[0]?).map (·.type) = some 117 := by kernel_rfl
theorem uPow : Tryz.prog.underlying 290 = some (.array 20 181) := by kernel_rfl
theorem uCones4 : Tryz.prog.underlying 117 = some (.array 4 116) := by kernel_rfl
theorem uCones3 : Tryz.prog.underlying 116 = some (.array 3 115) := by kernel_rfl
theorem uCones1 : Tryz.prog.underlying 115 = some (.array 3 3) := by kernel_rfl
/-- What the condition gives the walks. -/
theorem of_laid {W : World} (h : laidMetH Tryz.prog Rows.adaptKnownRow.laid W) : Bld.Pow W ∧ adapt.Cones W := by
 have h' : laidMetH Tryz.prog [("math/bits.deBruijn32tab", Rows.laid_math_bits_deBruijn32tab), ("math/bits.deBruijn64tab", Rows.laid_math_bits_deBruijn64tab), ("internal/strconv.uint64pow10", Rows.laid_internal_strconv_uint64pow10), ("verdigris/adapt.cones", Rows.laid_verdigris_adapt_cones)] W := h
 clear h
 rw [MakeChecks.laidMetH_plain _ _ _ (by kernel_rfl)] at h'
 have h2 := laidMet.tail (laidMet.tail h')
 refine ⟨Lib.tabIs_of_head gPow tPow uPow (by kernel_rfl) (by kernel_rfl) (by kernel_rfl) h2, ?_⟩
 obtain ⟨ps, ⟨g, t, cs, fuel, p, q, hg, ht, hvar, hd, -, -⟩, -⟩ := laidMet.tail h2
 obtain rfl := Option.some.inj (gCones.symm.trans hg)
 obtain rfl := Option.some.inj (tCones.symm.trans ht)
 have e : cs.toList = adapt.conesL.map fun z => Value.int .i64 z := by
  refine cells_of_rows (D := fun l : List Int => DataW.agg [Lib.tabData .i64 (l.take 3), Lib.tabData .i64 ((l.drop 3).take 3), Lib.tabData .i64 (l.drop 6)])
   [adapt.conesL.take 9, (adapt.conesL.drop 9).take 9, (adapt.conesL.drop 18).take 9, adapt.conesL.drop 27] uCones4 (by kernel_rfl) (fun fuel cs zs p h => ?_) hd
  have h3 := cells_of_rows (k := .i64) (D := fun l : List Int => Lib.tabData .i64 l) [zs.take 3, (zs.drop 3).take 3, zs.drop 6] uCones3 (by kernel_rfl) (fun fuel cs zs p h => Lib.cells_of_tab uCones1 (by kernel_rfl) (by kernel_rfl) (by kernel_rfl) h) h
  rw [h3]
  congr 1
  have e1 : zs.drop 6 = (zs.drop 3).drop 3 := by rw [List.drop_drop]
  simp only [List.flatten_cons, List.flatten_nil, List.append_nil]
  rw [e1, List.take_append_drop, List.take_append_drop]
 show W.var? Tryz.prog "verdigris/adapt.cones" = _
 rw [hvar, ← e]
end Go.Proofs.YtddblpggomphpaaGreatDoor
namespace Go.Proofs.YtddblpggomphpaaGreatDoor
open Go Go.ChangeShapes Go.WideShapes Go.RowKit Go.Proofs
theorem u16_wf {n : Int} (h : (Lit.int .u16 n).wf = true) : 0 ≤ n ∧ n ≤ 65535 := by
 simp [Lit.wf, IntKind.min, IntKind.max, IntKind.signed, IntKind.bits] at h
 omega
theorem u8_wf {n : Int} (h : (Lit.int .u8 n).wf = true) : 0 ≤ n ∧ n ≤ 255 := by
 simp [Lit.wf, IntKind.min, IntKind.max, IntKind.signed, IntKind.bits] at h
 omega
def Col (v : Value) (a b c : Int) : Prop := v = .agg #[.int .u16 a, .int .u16 b, .int .u16 c] ∧ (0 ≤ a ∧ a ≤ 65535) ∧ (0 ≤ b ∧ b ≤ 65535) ∧ (0 ≤ c ∧ c ≤ 65535)
set_option maxRecDepth 100000 in
theorem open_colour {H : Type} {enc : TypeId × Value → H} {W : World} {b0 base : Nat} {sp : Nat → Bool} {held : Bool} {v : Value} {d : DataW H} {p : List MemPlace}
  (hval : Value.okWide Tryz.prog W .any b0 24 v) (h : DataW.Trod enc Tryz.prog W base sp held 24 v d p) :
  ∃ a b c, Col v a b c ∧ p = [] ∧ ∀ (W' : World) (base' : Nat) (sp' : Nat → Bool) (held' : Bool), DataW.Trod enc Tryz.prog W' base' sp' held' 24 v d [] := by
 have ue : Tryz.prog.underlying 22 = some (.int .u16) := Tryz.underlying22
 have ut : Tryz.prog.underlying 24 = some (.array 3 22) := Tryz.underlying24
 have ce : Tryz.prog.cellsOf 22 = 1 := by kernel_rfl
 have ct : Tryz.prog.cellsOf 24 = 3 := by kernel_rfl
 obtain ⟨cs, rfl, hsz, -⟩ : ∃ cs, v = .agg cs ∧ cs.size = Tryz.prog.cellsOf 24 ∧ Row.okWide Tryz.prog W .any b0 24 cs := by
  simpa [Value.okWide, ut] using hval
 rw [ct] at hsz
 obtain ⟨l⟩ := cs
 obtain ⟨c0, c1, c2, rfl⟩ : ∃ c0 c1 c2, l = [c0, c1, c2] := by
  match l, hsz with
  | [c0, c1, c2], _ => exact ⟨c0, c1, c2, rfl⟩
 obtain ⟨fuel, hf⟩ := h
 obtain ⟨y0, y1, y2, m, hx, hy0, hy1, hy2⟩ := trod_array3 ut ce hf
 obtain ⟨x0, e0, rfl, w0⟩ := DataW.trod_int ue hy0
 obtain ⟨x1, e1, rfl, w1⟩ := DataW.trod_int ue hy1
 obtain ⟨x2, e2, rfl, w2⟩ := DataW.trod_int ue hy2
 simp at e0 e1 e2
 subst e0 e1 e2
 simp only [Prod.mk.injEq] at hx
 obtain ⟨rfl, rfl⟩ := hx
 refine ⟨x0, x1, x2, ⟨rfl, u16_wf w0, u16_wf w1, u16_wf w2⟩, by simp, fun W' base' sp' held' => ⟨2, ?_⟩⟩
 have r3 : List.range 3 = [0, 1, 2] := rfl
 show DataW.trod enc Tryz.prog W' base' sp' held' (1 + 1) 24 [.int .u16 x0, .int .u16 x1, .int .u16 x2] = _
 unfold DataW.trod
 rw [ut]
 simp [r3, ce, ct, trod_int_mk 0 ue w0, trod_int_mk 0 ue w1, trod_int_mk 0 ue w2]
end Go.Proofs.YtddblpggomphpaaGreatDoor
