/- Lemmas for the proof. No condition. -/
import Derived.Test.YtfhappbmgghgdaaGreatDoorNB01
import Derived.Test.YtfhappbmgghgdaaGreatDoorNB02
import Derived.Test.YtfhappbmgghgdaaGreatDoorNB03
import Derived.Test.YtfhappbmgghgdaaGreatDoorNB04
import Derived.Test.YtfhappbmgghgdaaGreatDoorNB05
import Derived.Test.YtfhappbmgghgdaaGreatDoorNB06
import Derived.Test.YtfhappbmgghgdaaGreatDoorNB07
import Derived.Test.YtfhappbmgghgdaaGreatDoorNB08
import Derived.Test.YtfhappbmgghgdaaGreatDoorNB09
import Derived.Test.YtfhappbmgghgdaaGreatDoorNB10
import Derived.Test.YtfhappbmgghgdaaGreatDoorNB11
import Derived.Test.YtfhappbmgghgdaaGreatDoorNB12
import Derived.Test.YtfhappbmgghgdaaGreatDoorNB13
import Derived.Test.YtfhappbmgghgdaaGreatDoorNB14
import Derived.Test.YtfhappbmgghgdaaGreatDoorNB15
import Derived.Test.YtfhappbmgghgdaaGreatDoorNB16
import Derived.Test.YtfhappbmgghgdaaGreatDoorNB17
import Derived.Test.YtfhappbmgghgdaaGreatDoorNB18
set_option linter.unusedVariables false
set_option linter.unusedSimpArgs false
namespace Go.Proofs.frac
open Go Go.RowKit Go.SW Go.Num Go.Mem Go.Proofs Go.Dec Go.Fra
set_option maxRecDepth 10000 in
set_option maxHeartbeats 4000000 in
theorem mul_ok (x y : Value) (p q : Rat) (w : World) (hx : RatV w x p) (hy : RatV w y q) (kp : szq 1000000 p) (kq : szq 1000000 q) :
  Calls Tryz.prog 94 #[x, y] w (fun e w' => ∃ v, e = .returned v ∧ Below w.heap.size w w' ∧ RatV w' v (p * q)) := by
 obtain ⟨paH, lH, caH, pbH, mH, cbH, rfl, H, Hd⟩ := hx; replace H := Lib.hid H; replace Hd := Lib.hid Hd
 obtain ⟨paG, lG, caG, pbG, mG, cbG, rfl, G, Gd⟩ := hy; replace G := Lib.hid G; replace Gd := Lib.hid Gd
 have HP := Lib.hid (mul_parts3 p q)
 have hp := p.den_pos
 have hq := q.den_pos
 have hg : 0 < p.num.natAbs.gcd q.den := Nat.gcd_pos_of_pos_right _ hq
 have hh : 0 < q.num.natAbs.gcd p.den := Nat.gcd_pos_of_pos_right _ hp
 obtain ⟨kp1, kp2⟩ := kp
 obtain ⟨kq1, kq2⟩ := kq
 obtain ⟨g, Eg⟩ : ∃ y : Nat, Hid (p.num.natAbs.gcd q.den = y) := ⟨_, Lib.hid rfl⟩
 rw [Eg.out] at hg HP
 obtain ⟨h, Eh⟩ : ∃ y : Nat, Hid (q.num.natAbs.gcd p.den = y) := ⟨_, Lib.hid rfl⟩
 rw [Eh.out] at hh HP
 have k1 := @sz_div p.num.natAbs g
 have k2 := @sz_div p.den h
 have k3 := @sz_div q.num.natAbs h
 have k4 := @sz_div q.den g
 obtain ⟨a, Ea⟩ : ∃ y : Nat, Hid (p.num.natAbs / g = y) := ⟨_, Lib.hid rfl⟩
 rw [Ea.out] at HP k1
 obtain ⟨b, Eb⟩ : ∃ y : Nat, Hid (p.den / h = y) := ⟨_, Lib.hid rfl⟩
 rw [Eb.out] at HP k2
 obtain ⟨c, Ec⟩ : ∃ y : Nat, Hid (q.num.natAbs / h = y) := ⟨_, Lib.hid rfl⟩
 rw [Ec.out] at HP k3
 obtain ⟨d, Ed⟩ : ∃ y : Nat, Hid (q.den / g = y) := ⟨_, Lib.hid rfl⟩
 rw [Ed.out] at HP k4
 obtain ⟨s, Es⟩ : ∃ y : Nat, Hid (a * c = y) := ⟨_, Lib.hid rfl⟩
 rw [Es.out] at HP
 obtain ⟨t, Et⟩ : ∃ y : Nat, Hid (b * d = y) := ⟨_, Lib.hid rfl⟩
 rw [Et.out] at HP
 have HGp := Lib.hid hg
 have HHp := Lib.hid hh
 have Kpn : Hid (sz 1000000000 p.num.natAbs ≤ 549755813888) := by unfold Hid; omega
 have Kqn : Hid (sz 1000000000 q.num.natAbs ≤ 549755813888) := by unfold Hid; omega
 have Kpd : Hid (sz 1000000000 p.den ≤ 549755813888) := by unfold Hid; omega
 have Kqd : Hid (sz 1000000000 q.den ≤ 549755813888) := by unfold Hid; omega
 have Ka : Hid (sz 1000000000 a ≤ 1099511627776) := by unfold Hid; omega
 have Kb : Hid (sz 1000000000 b ≤ 1099511627776) := by unfold Hid; omega
 have Kc : Hid (sz 1000000000 c ≤ 1099511627776) := by unfold Hid; omega
 have Kd : Hid (sz 1000000000 d ≤ 1099511627776) := by unfold Hid; omega
 clear k1 k2 k3 k4 kp1 kp2 kq1 kq2 hg hh hp hq
 go_enter Tryz.func94, Tryz.ntmps94
 go_wp2_with fail
 refine ((gcd_ok _ _ p.num.natAbs q.den _ magA magA Kpn.out Kqd.out).mono (by rw [Eg.out]; exact fun _ _ h => h)).mono ?_
 rintro e v1 ⟨v, rfl, hc1, hv⟩
 obtain ⟨paMg, lMg, caMg, rfl⟩ := hv.slice; have Mg := Lib.hid hv; clear hv
 replace H := Lib.hid (Mag.carry H.out magA hc1)
 replace Hd := Lib.hid (Mag.carry Hd.out magA hc1)
 replace G := Lib.hid (Mag.carry G.out magA hc1)
 replace Gd := Lib.hid (Mag.carry Gd.out magA hc1)
 have BR := Box.later (Box.at2 _ _ _ _ _) hc1; have cBR := BR.cell; have fBR := BR.free
 have B1 := Box.later (Box.alloc (Box.at1 _ _ _ _) _) hc1; have cB1 := B1.cell; have fB1 := B1.free
 have B0 := Box.later (Box.alloc (Box.alloc (Box.new _ _ _) _) _) hc1; have cB0 := B0.cell; have fB0 := B0.free
 go_wp2_with fail
 refine ((gcd_ok _ _ q.num.natAbs p.den _ magA magA Kqn.out Kpd.out).mono (by rw [Eh.out]; exact fun _ _ h => h)).mono ?_
 rintro e v2 ⟨v, rfl, hc2, hv⟩
 obtain ⟨paMh, lMh, caMh, rfl⟩ := hv.slice; have Mh := Lib.hid hv; clear hv
 replace H := Lib.hid (Mag.later H.out hc2)
 replace Hd := Lib.hid (Mag.later Hd.out hc2)
 replace G := Lib.hid (Mag.later G.out hc2)
 replace Gd := Lib.hid (Mag.later Gd.out hc2)
 replace Mg := Lib.hid (Mag.later Mg.out hc2)
 replace BR := Box.later (BR) hc2; replace cBR := BR.cell; replace fBR := BR.free
 replace B1 := Box.later (B1) hc2; replace cB1 := B1.cell; replace fB1 := B1.free
 replace B0 := Box.later (B0) hc2; replace cB0 := B0.cell; replace fB0 := B0.free
 go_wp2_with fail
 refine ((divide_ok _ _ p.num.natAbs g _ magA magA HGp.out Kpn.out).mono (by rw [Ea.out]; exact fun _ _ h => h)).mono ?_
 rintro e v3 ⟨v, vr, rfl, hc3, hv, hvr⟩
 obtain ⟨paMa, lMa, caMa, rfl⟩ := hv.slice; have Ma := Lib.hid hv; clear hv; obtain ⟨paMar, lMar, caMar, rfl⟩ := hvr.slice; have Mar := Lib.hid hvr; clear hvr
 replace Hd := Lib.hid (Mag.later Hd.out hc3)
 replace G := Lib.hid (Mag.later G.out hc3)
 replace Gd := Lib.hid (Mag.later Gd.out hc3)
 replace Mg := Lib.hid (Mag.later Mg.out hc3)
 replace Mh := Lib.hid (Mag.later Mh.out hc3)
 replace BR := Box.later (BR) hc3; replace cBR := BR.cell; replace fBR := BR.free
 replace B1 := Box.later (B1) hc3; replace cB1 := B1.cell; replace fB1 := B1.free
 replace B0 := Box.later (B0) hc3; replace cB0 := B0.cell; replace fB0 := B0.free
 go_wp2_with fail
 clear Mar H
 refine ((divide_ok _ _ p.den h _ magA magA HHp.out Kpd.out).mono (by rw [Eb.out]; exact fun _ _ h => h)).mono ?_
 rintro e v4 ⟨v, vr, rfl, hc4, hv, hvr⟩
 obtain ⟨paMb, lMb, caMb, rfl⟩ := hv.slice; have Mb := Lib.hid hv; clear hv; obtain ⟨paMbr, lMbr, caMbr, rfl⟩ := hvr.slice; have Mbr := Lib.hid hvr; clear hvr
 replace G := Lib.hid (Mag.later G.out hc4)
 replace Gd := Lib.hid (Mag.later Gd.out hc4)
 replace Mg := Lib.hid (Mag.later Mg.out hc4)
 replace Mh := Lib.hid (Mag.later Mh.out hc4)
 replace Ma := Lib.hid (Mag.later Ma.out hc4)
 replace BR := Box.later (BR) hc4; replace cBR := BR.cell; replace fBR := BR.free
 replace B1 := Box.later (B1) hc4; replace cB1 := B1.cell; replace fB1 := B1.free
 replace B0 := Box.later (B0) hc4; replace cB0 := B0.cell; replace fB0 := B0.free
 go_wp2_with fail
 clear Mbr Hd
 refine ((divide_ok _ _ q.num.natAbs h _ magA magA HHp.out Kqn.out).mono (by rw [Ec.out]; exact fun _ _ h => h)).mono ?_
 rintro e v5 ⟨v, vr, rfl, hc5, hv, hvr⟩
 obtain ⟨paMc, lMc, caMc, rfl⟩ := hv.slice; have Mc := Lib.hid hv; clear hv; obtain ⟨paMcr, lMcr, caMcr, rfl⟩ := hvr.slice; have Mcr := Lib.hid hvr; clear hvr
 replace Gd := Lib.hid (Mag.later Gd.out hc5)
 replace Mg := Lib.hid (Mag.later Mg.out hc5)
 replace Ma := Lib.hid (Mag.later Ma.out hc5)
 replace Mb := Lib.hid (Mag.later Mb.out hc5)
 replace BR := Box.later (BR) hc5; replace cBR := BR.cell; replace fBR := BR.free
 replace B1 := Box.later (B1) hc5; replace cB1 := B1.cell; replace fB1 := B1.free
 replace B0 := Box.later (B0) hc5; replace cB0 := B0.cell; replace fB0 := B0.free
 go_wp2_with fail
 clear Mcr G
 refine ((divide_ok _ _ q.den g _ magA magA HGp.out Kqd.out).mono (by rw [Ed.out]; exact fun _ _ h => h)).mono ?_
 rintro e v6 ⟨v, vr, rfl, hc6, hv, hvr⟩
 obtain ⟨paMd, lMd, caMd, rfl⟩ := hv.slice; have Md := Lib.hid hv; clear hv; obtain ⟨paMdr, lMdr, caMdr, rfl⟩ := hvr.slice; have Mdr := Lib.hid hvr; clear hvr
 replace Ma := Lib.hid (Mag.later Ma.out hc6)
 replace Mb := Lib.hid (Mag.later Mb.out hc6)
 replace Mc := Lib.hid (Mag.later Mc.out hc6)
 replace BR := Box.later (BR) hc6; replace cBR := BR.cell; replace fBR := BR.free
 replace B1 := Box.later (B1) hc6; replace cB1 := B1.cell; replace fB1 := B1.free
 replace B0 := Box.later (B0) hc6; replace cB0 := B0.cell; replace fB0 := B0.free
 go_wp2_with fail
 clear Mdr Gd
 refine wp_region_walk [(.pure, 0), (.pure, 1), (.pure, 3), (.pure, 4), (.read, 5), (.pure, 6), (.pure, 7), (.read, 8), (.pure, 9), (.pure, 11), (.pure, 12), (.ext, 2), (.ext, 10), (.ext, 13), (.pure, 14), (.fin, 15)] (by kernel_rfl) (by kernel_rfl) (allocRuns_of (by kernel_rfl)) (fun _ _ _ _ hd h => And.intro (hd.trans (And.left h)) (And.right h)) ?_
 repeat (first | (refine walk_pure0 rfl rfl (fun J hJ => ?_); go_simp; refine hJ _ ?_; clear hJ J) | (refine walk_load rfl rfl rfl rfl (fun J hJ => ?_); go_simp; refine hJ _ ?_; clear hJ J; try go_simp))
 refine walk_ext rfl rfl (fun w7 hb7 J hJ => ?_); go_simp
 replace Ma := Lib.hid (Mag.carry Ma.out magA hb7)
 replace Mb := Lib.hid (Mag.carry Mb.out magA hb7)
 replace Mc := Lib.hid (Mag.carry Mc.out magA hb7)
 replace Md := Lib.hid (Mag.carry Md.out magA hb7)
 replace BR := Box.later (Box.drew BR) hb7; replace cBR := BR.cell; replace fBR := BR.free
 refine ((times_ok _ _ a c _ magA magA Ka.out Kc.out).mono (by rw [Es.out]; exact fun _ _ h => h)).mono ?_
 rintro e v7 ⟨v, rfl, hc7, hv⟩
 obtain ⟨paMs, lMs, caMs, rfl⟩ := hv.slice; have Ms := Lib.hid hv; clear hv
 replace Ma := Lib.hid (Mag.later Ma.out hc7)
 replace Mb := Lib.hid (Mag.later Mb.out hc7)
 replace Mc := Lib.hid (Mag.later Mc.out hc7)
 replace Md := Lib.hid (Mag.later Md.out hc7)
 replace BR := Box.later (BR) hc7; replace cBR := BR.cell; replace fBR := BR.free
 refine hJ _ _ hc7 ?_
 clear hJ J
 refine walk_ext rfl rfl (fun w8 hb8 J hJ => ?_); go_simp
 replace Mb := Lib.hid (Mag.later Mb.out hb8)
 replace Md := Lib.hid (Mag.later Md.out hb8)
 replace Ms := Lib.hid (Mag.later Ms.out hb8)
 replace BR := Box.later (BR) hb8; replace cBR := BR.cell; replace fBR := BR.free
 refine (signed_ok _ s _ _ magA).mono ?_
 rintro e v8 ⟨v, rfl, hc8, hv⟩
 obtain ⟨paMv, lMv, caMv, rfl, Mv⟩ := hv; replace Mv := Lib.hid Mv
 replace Mb := Lib.hid (Mag.later Mb.out hc8)
 replace Md := Lib.hid (Mag.later Md.out hc8)
 replace Ms := Lib.hid (Mag.later Ms.out hc8)
 replace BR := Box.later (BR) hc8; replace cBR := BR.cell; replace fBR := BR.free
 refine hJ _ _ hc8 ?_
 clear hJ J
 refine walk_ext rfl rfl (fun w9 hb9 J hJ => ?_); go_simp
 replace Mb := Lib.hid (Mag.later Mb.out hb9)
 replace Md := Lib.hid (Mag.later Md.out hb9)
 replace Mv := Lib.hid (Mag.later Mv.out hb9)
 replace BR := Box.later (BR) hb9; replace cBR := BR.cell; replace fBR := BR.free
 refine ((times_ok _ _ b d _ magA magA Kb.out Kd.out).mono (by rw [Et.out]; exact fun _ _ h => h)).mono ?_
 rintro e v9 ⟨v, rfl, hc9, hv⟩
 obtain ⟨paMt, lMt, caMt, rfl⟩ := hv.slice; have Mt := Lib.hid hv; clear hv
 replace Mb := Lib.hid (Mag.later Mb.out hc9)
 replace Md := Lib.hid (Mag.later Md.out hc9)
 replace Mv := Lib.hid (Mag.later Mv.out hc9)
 replace BR := Box.later (BR) hc9; replace cBR := BR.cell; replace fBR := BR.free
 refine hJ _ _ hc9 ?_
 clear hJ J
 repeat (first | (refine walk_pure0 rfl rfl (fun J hJ => ?_); go_simp; refine hJ _ ?_; clear hJ J) | (refine walk_load rfl rfl rfl rfl (fun J hJ => ?_); go_simp; refine hJ _ ?_; clear hJ J; try go_simp))
 refine walk_fin [_] rfl (fun w14 hb14 => ?_)
 replace BR := Box.later (BR) hb14; replace cBR := BR.cell; replace fBR := BR.free
 go_wp2_with fail
 refine ret_c rfl rfl boxA Tryz.underlying153 rfl (by kernel_rfl) ?_
 exact ⟨_, rfl, belA, RatV.mk (sgd s (!(decide (p.num < 0) == decide (q.num < 0)))).natAbs t magA magA (by rw [HP.out.1]) HP.out.2.symm (by rw [HP.out.1])⟩
end Go.Proofs.frac
namespace Go.Proofs.frac
open Go Go.RowKit Go.SW Go.Num Go.Mem Go.Proofs Go.Dec Go.Fra
set_option maxRecDepth 10000 in
theorem result_bad (w : World) :
  Calls Tryz.prog 92 #[.agg #[.slice none 0 0, .bool false, .slice none 0 0], .int .i64 20] w (fun e w' => e = .returned (.tuple #[.agg #[.string ⟨#[]⟩, .string ⟨#[]⟩], .int .i64 20]) ∧ Below w.heap.size w w') := by
 go_enter Tryz.func92, Tryz.ntmps92
 go_wp2_with fail
 refine ret_ct rfl rfl boxA Tryz.underlying59 rfl (by kernel_rfl) ?_
 exact ⟨rfl, belA⟩
set_option maxRecDepth 10000 in
theorem result_ok (v : Value) (q : Rat) (w : World) (h : RatV w v q) (k : szq 1000000 q) (ht : Bld.Pow w) :
  Calls Tryz.prog 92 #[v, .int .i64 0] w (fun e w' => e = .returned (Fr.res (wr q)) ∧ Below w.heap.size w w') := by
 obtain ⟨paH, lH, caH, pbH, mH, cbH, rfl, H, Hd⟩ := h; replace H := Lib.hid H; replace Hd := Lib.hid Hd
 have HT := Lib.hid ht
 have K := Lib.hid k
 clear ht k
 obtain ⟨x, Ex⟩ : ∃ y : FrI, Hid (wr q = y) := ⟨_, Lib.hid rfl⟩
 rw [Ex.out]
 obtain ⟨⟨s, t⟩, e⟩ := x
 rw [res_mk]
 go_enter Tryz.func92, Tryz.ntmps92
 go_wp2_with fail
 refine ((write_ok _ q _ (RatV.of magA magA) K.out (HT.out.later belA)).mono (by rw [Ex.out, res_mk]; exact fun _ _ h => h)).mono ?_
 rintro e v1 ⟨rfl, hc1⟩
 have BR := Box.later (Box.at1 _ _ _ _) hc1; have cBR := BR.cell; have fBR := BR.free; have lBR := BR.lt
 go_wp2_with fail
 refine ret_ct rfl rfl boxA Tryz.underlying59 rfl (by kernel_rfl) ?_
 exact ⟨rfl, belA⟩
set_option maxRecDepth 10000 in
set_option maxHeartbeats 400000 in
theorem apply_mul (s t s' t' : ByteArray) (w : World) (p q : Rat) (h : rd ⟨s, t⟩ = some p) (k : rd ⟨s', t'⟩ = some q) :
  Calls Tryz.prog 93 #[.agg #[.string s, .string t], .agg #[.string s', .string t'], .func (.func 94) #[] #[]] w (fun e w' => ∃ v, e = .returned (.tuple #[v, .int .i64 0]) ∧ Below w.heap.size w w' ∧ RatV w' v (p * q)) := by
 have HR := Lib.hid (read_of h)
 have HS := Lib.hid (read_of k)
 have KP := Lib.hid ((okq_sz (of_rd h).2).mono (show 67 ≤ 1000000 by omega))
 have KQ := Lib.hid ((okq_sz (of_rd k).2).mono (show 67 ≤ 1000000 by omega))
 clear h k
 obtain ⟨r, Er⟩ : ∃ y : Rat, Hid (p * q = y) := ⟨_, Lib.hid rfl⟩
 rw [Er.out]
 go_enter Tryz.func93, Tryz.ntmps93
 go_wp2_with fail
 refine (HR.out _).mono ?_
 rintro e v1 ⟨v, rfl, hc1, hv⟩
 obtain ⟨paHp, lHp, caHp, pbHp, mHp, cbHp, rfl, Hp, Hpd⟩ := hv; replace Hp := Lib.hid Hp; replace Hpd := Lib.hid Hpd
 have BR := Box.later (Box.at2 _ _ _ _ _) hc1; have cBR := BR.cell; have fBR := BR.free; have lBR := BR.lt
 have B1 := Box.later (Box.alloc (Box.at1 _ _ _ _) _) hc1; have cB1 := B1.cell; have fB1 := B1.free; have lB1 := B1.lt
 go_wp2_with fail
 refine (HS.out _).mono ?_
 rintro e v2 ⟨v, rfl, hc2, hv⟩
 obtain ⟨paHq, lHq, caHq, pbHq, mHq, cbHq, rfl, Hq, Hqd⟩ := hv; replace Hq := Lib.hid Hq; replace Hqd := Lib.hid Hqd
 replace Hp := Lib.hid (Mag.carry Hp.out magA hc2)
 replace Hpd := Lib.hid (Mag.carry Hpd.out magA hc2)
 replace X1 : Box _ (v1.heap.size) _ _ := Box.later boxA hc2; (try simp only [List.setIfInBounds_toArray, List.set_cons_zero, List.set_cons_succ] at X1); replace cX1 := X1.cell; replace fX1 := X1.free; replace lX1 := X1.lt
 replace BR : Box _ (w.heap.size + 1 + 1) _ _ := Box.later boxA hc2; (try simp only [List.setIfInBounds_toArray, List.set_cons_zero, List.set_cons_succ] at BR); replace cBR := BR.cell; replace fBR := BR.free; replace lBR := BR.lt
 go_wp2_with fail
 refine ((mul_ok _ _ p q _ (RatV.of magA magA) (RatV.of magA magA) KP.out KQ.out).mono (by rw [Er.out]; exact fun _ _ h => h)).mono ?_
 rintro e v3 ⟨v, rfl, hc3, hv⟩
 obtain ⟨paHr, lHr, caHr, pbHr, mHr, cbHr, rfl, Hr, Hrd⟩ := hv; replace Hr := Lib.hid Hr; replace Hrd := Lib.hid Hrd
 replace BR : Box _ (w.heap.size + 1 + 1) _ _ := Box.later boxA hc3; (try simp only [List.setIfInBounds_toArray, List.set_cons_zero, List.set_cons_succ] at BR); replace cBR := BR.cell; replace fBR := BR.free; replace lBR := BR.lt
 go_wp2_with fail
 refine ret_ct rfl rfl boxA Tryz.underlying153 rfl (by kernel_rfl) ?_
 exact ⟨_, rfl, belA, RatV.of magA magA⟩
set_option maxRecDepth 10000 in
set_option maxHeartbeats 400000 in
theorem apply_mul_bad (s t s' t' : ByteArray) (w : World) (h : rd ⟨s, t⟩ = none ∨ rd ⟨s', t'⟩ = none) :
  Calls Tryz.prog 93 #[.agg #[.string s, .string t], .agg #[.string s', .string t'], .func (.func 94) #[] #[]] w (fun e w' => e = .returned (.tuple #[.agg #[.slice none 0 0, .bool false, .slice none 0 0], .int .i64 20]) ∧ Below w.heap.size w w') := by
 cases h1 : rd ⟨s, t⟩ with
 | none =>
  have HR := Lib.hid (read_not h1)
  cases k : rd ⟨s', t'⟩ with
  | none =>
   have HS := Lib.hid (read_not k)
   clear h k h1
   go_enter Tryz.func93, Tryz.ntmps93
   go_wp2_with fail
   refine (HR.out _).mono ?_
   rintro e v1 ⟨rfl, hc1⟩
   have BR := Box.later (Box.at2 _ _ _ _ _) hc1; have cBR := BR.cell; have fBR := BR.free; have lBR := BR.lt
   have B1 := Box.later (Box.alloc (Box.at1 _ _ _ _) _) hc1; have cB1 := B1.cell; have fB1 := B1.free; have lB1 := B1.lt
   go_wp2_with fail
   refine (HS.out _).mono ?_
   rintro e v2 ⟨rfl, hc2⟩
   replace BR : Box _ (w.heap.size + 1 + 1) _ _ := Box.later boxA hc2; replace cBR := BR.cell; replace fBR := BR.free; replace lBR := BR.lt
   have q1 : w.heap.size + 1 < v2.heap.size := by omega
   go_wp2_with fail
   refine ret_ct rfl rfl boxA Tryz.underlying153 rfl (by kernel_rfl) ?_
   exact ⟨rfl, belA⟩
  | some q =>
   have HS := Lib.hid (read_of k)
   clear h k h1
   go_enter Tryz.func93, Tryz.ntmps93
   go_wp2_with fail
   refine (HR.out _).mono ?_
   rintro e v1 ⟨rfl, hc1⟩
   have BR := Box.later (Box.at2 _ _ _ _ _) hc1; have cBR := BR.cell; have fBR := BR.free; have lBR := BR.lt
   have B1 := Box.later (Box.alloc (Box.at1 _ _ _ _) _) hc1; have cB1 := B1.cell; have fB1 := B1.free; have lB1 := B1.lt
   go_wp2_with fail
   refine (HS.out _).mono ?_
   rintro e v2 ⟨v, rfl, hc2, hv⟩
   obtain ⟨paHq, lHq, caHq, pbHq, mHq, cbHq, rfl, Hq, Hqd⟩ := hv; replace Hq := Lib.hid Hq; replace Hqd := Lib.hid Hqd
   replace BR : Box _ (w.heap.size + 1 + 1) _ _ := Box.later boxA hc2; replace cBR := BR.cell; replace fBR := BR.free; replace lBR := BR.lt
   have q1 : w.heap.size + 1 < v2.heap.size := by omega
   go_wp2_with fail
   refine ret_ct rfl rfl boxA Tryz.underlying153 rfl (by kernel_rfl) ?_
   exact ⟨rfl, belA⟩
 | some p =>
  have HR := Lib.hid (read_of h1)
  cases k : rd ⟨s', t'⟩ with
  | none =>
   have HS := Lib.hid (read_not k)
   clear h k h1
   go_enter Tryz.func93, Tryz.ntmps93
   go_wp2_with fail
   refine (HR.out _).mono ?_
   rintro e v1 ⟨v, rfl, hc1, hv⟩
   obtain ⟨paHp, lHp, caHp, pbHp, mHp, cbHp, rfl, Hp, Hpd⟩ := hv; replace Hp := Lib.hid Hp; replace Hpd := Lib.hid Hpd
   have BR := Box.later (Box.at2 _ _ _ _ _) hc1; have cBR := BR.cell; have fBR := BR.free; have lBR := BR.lt
   have B1 := Box.later (Box.alloc (Box.at1 _ _ _ _) _) hc1; have cB1 := B1.cell; have fB1 := B1.free; have lB1 := B1.lt
   go_wp2_with fail
   refine (HS.out _).mono ?_
   rintro e v2 ⟨rfl, hc2⟩
   replace BR : Box _ (w.heap.size + 1 + 1) _ _ := Box.later boxA hc2; replace cBR := BR.cell; replace fBR := BR.free; replace lBR := BR.lt
   have q1 : w.heap.size + 1 < v2.heap.size := by omega
   go_wp2_with fail
   refine ret_ct rfl rfl boxA Tryz.underlying153 rfl (by kernel_rfl) ?_
   exact ⟨rfl, belA⟩
  | some q => rw [h1, k] at h; simp at h
set_option maxRecDepth 10000 in
theorem Mul_ok (a b : Fr) (w : World) (ht : Bld.Pow w) :
  Calls Tryz.prog 45 #[a.v, b.v] w (fun e w' => e = .returned (Fr.res (mulF a b)) ∧ Below w.heap.size w w') := by
 obtain ⟨s, t⟩ := a
 obtain ⟨s', t'⟩ := b
 show Calls _ _ #[.agg #[.string s, .string t], .agg #[.string s', .string t']] _ _
 unfold mulF
 have HT := Lib.hid ht
 clear ht
 by_cases hbad : rd ⟨s, t⟩ = none ∨ rd ⟨s', t'⟩ = none
 ·have e : ∀ f, bin f ⟨s, t⟩ ⟨s', t'⟩ = (Fr.no, 20) := fun f => by
   rcases hbad with h | h
   ·exact bin_no1 h
   ·exact bin_no2 h
  rw [e]
  have HA := Lib.hid (fun w => apply_mul_bad s t s' t' w hbad)
  clear hbad e
  go_enter Tryz.func45, Tryz.ntmps45
  go_wp2_with fail
  refine (HA.out _).mono ?_
  rintro e v1 ⟨rfl, hc1⟩
  have BR := Box.later (Box.at2 _ _ _ _ _) hc1; have cBR := BR.cell; have fBR := BR.free; have lBR := BR.lt
  go_wp2_with fail
  refine (result_bad _).mono ?_
  rintro e v2 ⟨rfl, hc2⟩
  replace BR := Box.later (BR) hc2; replace cBR := BR.cell; replace fBR := BR.free; replace lBR := BR.lt
  go_wp2_with fail
  refine ret_ct rfl rfl boxA Tryz.underlying59 rfl (by kernel_rfl) ?_
  exact ⟨rfl, belA⟩
 ·obtain ⟨p, hp⟩ : ∃ p, rd ⟨s, t⟩ = some p := Option.ne_none_iff_exists'.1 (fun e => hbad (.inl e))
  obtain ⟨q, hq⟩ : ∃ q, rd ⟨s', t'⟩ = some q := Option.ne_none_iff_exists'.1 (fun e => hbad (.inr e))
  rw [bin_some hp hq]
  have KP := Lib.hid (okq_sz (of_rd hp).2)
  have KQ := Lib.hid (okq_sz (of_rd hq).2)
  have HA := Lib.hid (fun w => apply_mul s t s' t' w p q hp hq)
  have KR : Hid (szq 1000000 (p * q)) := Lib.hid (szq.mono (k := 135) ((szq_mul KP.out KQ.out).mono (by omega)) (by omega))
  clear hp hq hbad KP KQ
  obtain ⟨r, Er⟩ : ∃ y : Rat, Hid (p * q = y) := ⟨_, Lib.hid rfl⟩
  simp only [Er.out] at KR HA ⊢
  obtain ⟨x, Ex⟩ : ∃ y : FrI, Hid (wr r = y) := ⟨_, Lib.hid rfl⟩
  rw [Ex.out]
  obtain ⟨⟨s1, t1⟩, e⟩ := x
  rw [res_mk]
  go_enter Tryz.func45, Tryz.ntmps45
  go_wp2_with fail
  refine (HA.out _).mono ?_
  rintro e v1 ⟨v, rfl, hc1, hv⟩
  obtain ⟨paHr, lHr, caHr, pbHr, mHr, cbHr, rfl, Hr, Hrd⟩ := hv; replace Hr := Lib.hid Hr; replace Hrd := Lib.hid Hrd
  have BR := Box.later (Box.at2 _ _ _ _ _) hc1; have cBR := BR.cell; have fBR := BR.free; have lBR := BR.lt
  go_wp2_with fail
  refine ((result_ok _ r _ (RatV.of magA magA) KR.out (HT.out.later belA)).mono (by rw [Ex.out, res_mk]; exact fun _ _ h => h)).mono ?_
  rintro e v2 ⟨rfl, hc2⟩
  replace BR := Box.later (BR) hc2; replace cBR := BR.cell; replace fBR := BR.free; replace lBR := BR.lt
  go_wp2_with fail
  refine ret_ct rfl rfl boxA Tryz.underlying59 rfl (by kernel_rfl) ?_
  exact ⟨rfl, belA⟩
end Go.Proofs.frac
namespace Go.Proofs.verdigrislaw05
open Go Go.RowKit Go.SW Go.Num Go.Mem Go.Proofs Go.Dec Go.Fra Go.Proofs.matrix Go.Proofs.verdigrisref05
/-- Sized returns the matrix M of n rows. -/
def SzC (w : World) (d : Value) (n m : Nat) (M : List (List Fr)) : Prop := ∀ W, Below w.heap.size w W → Calls Tryz.prog 34 #[d, .int .i64 (n : Int), .int .i64 (m : Int)] W (fun e w' => ∃ a c, e = .returned (.slice a n c) ∧ Below W.heap.size W w' ∧ MatV w' (.slice a n c) M)
/-- Mul returns the matrix R of n rows. -/
def MuC (A B : List (List Fr)) (n : Nat) (R : List (List Fr)) : Prop := ∀ a b W, MatV W a A → MatV W b B → Bld.Pow W → Calls Tryz.prog 27 #[a, b] W (YesN W n R)
def DtC (A : List (List Fr)) (x y : ByteArray) : Prop := ∀ v W, MatV W v A → Bld.Pow W → Calls Tryz.prog 35 #[v] W (fun e w' => e = .returned (.tuple #[.agg #[.string x, .string y], .int .i64 0]) ∧ Below W.heap.size W w')
def FmC (x y z u s t : ByteArray) : Prop := ∀ W, Bld.Pow W → Calls Tryz.prog 45 #[.agg #[.string x, .string y], .agg #[.string z, .string u]] W (fun e w' => e = .returned (.tuple #[.agg #[.string s, .string t], .int .i64 0]) ∧ Below W.heap.size W w')
set_option maxRecDepth 100000 in
set_option maxHeartbeats 8000000 in
theorem groups_main (r c r1 c1 r2 c2 : Int) (v v1 v2 : Value) (n m : Nat) (s1 t1 s2 t2 s3 t3 : ByteArray) (A B C PM RM2 SM I : List (List Fr)) (w : World) (hr : 0 ≤ r ∧ r ≤ 255) (hc2 : 0 ≤ c2 ∧ c2 ≤ 255) (hn : 1 + r % 4 = (n : Int)) (hm : 1 + c2 % 4 = (m : Int)) (ht : Bld.Pow w) (he : whole.Er w) (hv : Drafts w v) (hv1 : Drafts w v1) (hv2 : Drafts w v2)
  (HS1 : Hid (SzC w (.agg #[.int .u8 r, .int .u8 c, v]) n n A)) (HS2 : Hid (SzC w (.agg #[.int .u8 r1, .int .u8 c1, v1]) n n B)) (HS3 : Hid (SzC w (.agg #[.int .u8 r2, .int .u8 c2, v2]) n m C))
  (HP1 : Hid (MuC A B n PM)) (HR1 : Hid (MuC PM C n RM2)) (HS : Hid (MuC B C n SM)) (HT1 : Hid (MuC A SM n RM2)) (HI : Hid (∀ W, Calls Tryz.prog 13 #[.int .i64 (n : Int)] W (YesN W n I))) (HSA : Hid (MuC I C n C))
  (HD1 : Hid (DtC A s1 t1)) (HD2 : Hid (DtC B s2 t2)) (HD3 : Hid (DtC PM s3 t3)) (HFM : Hid (FmC s1 t1 s2 t2 s3 t3)) :
  Calls Tryz.prog 8 #[.agg #[.int .u8 r, .int .u8 c, v], .agg #[.int .u8 r1, .int .u8 c1, v1], .agg #[.int .u8 r2, .int .u8 c2, v2]] w (fun e w' => e = .returned (.bool true) ∧ Below w.heap.size w w') := by
 have HP := Lib.hid ht
 have HE := Lib.hid he
 have HW := Lib.hid (fun W (h1 : Bld.Pow W) (h2 : whole.Er W) => works_ok W h1 h2)
 have x1 : r.tmod 4 = r % 4 := Int.tmod_eq_emod_of_nonneg hr.1
 have x3 : IntKind.u8.wrap (r % 4) = r % 4 := by unfold IntKind.wrap; simp [IntKind.bits, IntKind.signed]; omega
 have x5 : IntKind.i64.wrap (r % 4) = r % 4 := by unfold IntKind.wrap; simp [IntKind.bits, IntKind.signed]; omega
 have x7 : IntKind.i64.wrap (1 + r % 4) = (n : Int) := by rw [← hn]; unfold IntKind.wrap; simp [IntKind.bits, IntKind.signed]; omega
 have y1 : c2.tmod 4 = c2 % 4 := Int.tmod_eq_emod_of_nonneg hc2.1
 have y3 : IntKind.u8.wrap (c2 % 4) = c2 % 4 := by unfold IntKind.wrap; simp [IntKind.bits, IntKind.signed]; omega
 have y5 : IntKind.i64.wrap (c2 % 4) = c2 % 4 := by unfold IntKind.wrap; simp [IntKind.bits, IntKind.signed]; omega
 have y7 : IntKind.i64.wrap (1 + c2 % 4) = (m : Int) := by rw [← hm]; unfold IntKind.wrap; simp [IntKind.bits, IntKind.signed]; omega
 obtain ⟨a0, nd, cap, rfl, -, -⟩ := hv
 obtain ⟨a1, nd1, cap1, rfl, -, -⟩ := hv1
 obtain ⟨a2, nd2, cap2, rfl, -, -⟩ := hv2
 have HEQ := @run_eqFr_same
 clear ht he hn hm hr hc2
 go_enter Tryz.func8, Tryz.ntmps8
 go_wp2_with fail
 obtain ⟨u0, EW, hz, HX, HY, HZ⟩ := al3 w #[.int .u8 r, .int .u8 c, .slice a0 nd cap] 26 #[.int .u8 r1, .int .u8 c1, .slice a1 nd1 cap1] 26 #[.int .u8 r2, .int .u8 c2, .slice a2 nd2 cap2] 26
 rw [EW]
 have HB := Lib.hid hz
 clear EW hz
 refine (HW.out _ (HP.out.later HB.out) (HE.out.later HB.out)).mono ?_
 rintro e u1 ⟨rfl, h⟩
 replace HX := Lib.hid (HX.out.later h)
 replace HY := Lib.hid (HY.out.later h)
 replace HZ := Lib.hid (HZ.out.later h)
 replace HB := Lib.hid (Bt HB.out h)
 clear h
 have cHX := HX.out.cell
 have lHX := HX.out.lt
 go_wp2_with fail
 clear cHX lHX
 have HR0 := Lib.hid (Below.refl u1.heap.size u1)
 refine wp_region_walk [(.read, 0), (.pure, 1), (.pure, 2), (.read, 4), (.pure, 5), (.pure, 6), (.read, 8), (.pure, 9), (.pure, 10), (.read, 11), (.pure, 12), (.pure, 13), (.pure, 14), (.ext, 3), (.ext, 7), (.ext, 15), (.fin, 16), (.fin, 17), (.fin, 18)] (by kernel_rfl) (by kernel_rfl) (allocRuns_of (by kernel_rfl)) (fun _ _ _ _ hd h => And.intro (hd.trans (And.left h)) (And.right h)) ?_
 refine Wk.out ?_
 have cHX := HX.out.cell
 have lHX := HX.out.lt
 have cHY := HY.out.cell
 have lHY := HY.out.lt
 have cHZ := HZ.out.cell
 have lHZ := HZ.out.lt
 repeat (first | (apply wk_skip; (rfl); (rfl); (rfl); (intro J hJ; go_simp; (with_reducible refine hJ _ ?_); clear hJ J)) | (apply wk_len; (rfl); (rfl); (rfl); (rfl); (exact (by kernel_rfl)); (intro J hJ; go_simp; (with_reducible refine hJ _ ?_); clear hJ J)) | (apply wk_pure; (rfl); (rfl); (intro J hJ; go_simp; (with_reducible refine hJ _ ?_); clear hJ J)) | (apply wk_load; (rfl); (rfl); (rfl); (rfl); (intro J hJ; go_simp; (with_reducible refine hJ _ ?_); clear hJ J; try go_simp)))
 clear cHX lHX
 clear cHY lHY
 clear cHZ lHZ
 refine wk_ext rfl rfl (fun we hbe J hJ => ?_)
 go_simp
 have hx : Below u1.heap.size u1 we := belA
 have HX2 := Lib.hid (Bt HB.out hx)
 refine (HS1.out _ HX2.out).mono ?_
 rintro e u2 ⟨aa, ca, rfl, h, hm⟩
 have hy := Bt hx h
 refine hJ _ _ h ?_
 clear hJ J hbe hx h HX2
 replace HX := Lib.hid (HX.out.later hy)
 replace HY := Lib.hid (HY.out.later hy)
 replace HZ := Lib.hid (HZ.out.later hy)
 replace HB := Lib.hid (Bt HB.out hy)
 replace HR0 := Lib.hid (Bt HR0.out hy)
 clear hy
 have FA := Lib.hid hm
 clear hm
 have cHX := HX.out.cell
 have lHX := HX.out.lt
 have cHY := HY.out.cell
 have lHY := HY.out.lt
 have cHZ := HZ.out.cell
 have lHZ := HZ.out.lt
 repeat (first | (apply wk_skip; (rfl); (rfl); (rfl); (intro J hJ; go_simp; (with_reducible refine hJ _ ?_); clear hJ J)) | (apply wk_len; (rfl); (rfl); (rfl); (rfl); (exact (by kernel_rfl)); (intro J hJ; go_simp; (with_reducible refine hJ _ ?_); clear hJ J)) | (apply wk_pure; (rfl); (rfl); (intro J hJ; go_simp; (with_reducible refine hJ _ ?_); clear hJ J)) | (apply wk_load; (rfl); (rfl); (rfl); (rfl); (intro J hJ; go_simp; (with_reducible refine hJ _ ?_); clear hJ J; try go_simp)))
 clear cHX lHX
 clear cHY lHY
 clear cHZ lHZ
 refine wk_ext rfl rfl (fun we hbe J hJ => ?_)
 go_simp
 have hx : Below u2.heap.size u2 we := belA
 have HX2 := Lib.hid (Bt HB.out hx)
 refine (HS2.out _ HX2.out).mono ?_
 rintro e u3 ⟨ab, cb, rfl, h, hm⟩
 have hy := Bt hx h
 refine hJ _ _ h ?_
 clear hJ J hbe hx h HX2
 replace HX := Lib.hid (HX.out.later hy)
 replace HY := Lib.hid (HY.out.later hy)
 replace HZ := Lib.hid (HZ.out.later hy)
 replace FA := Lib.hid (FA.out.later hy)
 replace HB := Lib.hid (Bt HB.out hy)
 replace HR0 := Lib.hid (Bt HR0.out hy)
 clear hy
 have FB := Lib.hid hm
 clear hm
 have cHX := HX.out.cell
 have lHX := HX.out.lt
 have cHY := HY.out.cell
 have lHY := HY.out.lt
 have cHZ := HZ.out.cell
 have lHZ := HZ.out.lt
 repeat (first | (apply wk_skip; (rfl); (rfl); (rfl); (intro J hJ; go_simp; (with_reducible refine hJ _ ?_); clear hJ J)) | (apply wk_len; (rfl); (rfl); (rfl); (rfl); (exact (by kernel_rfl)); (intro J hJ; go_simp; (with_reducible refine hJ _ ?_); clear hJ J)) | (apply wk_pure; (rfl); (rfl); (intro J hJ; go_simp; (with_reducible refine hJ _ ?_); clear hJ J)) | (apply wk_load; (rfl); (rfl); (rfl); (rfl); (intro J hJ; go_simp; (with_reducible refine hJ _ ?_); clear hJ J; try go_simp)))
 clear cHX lHX
 clear cHY lHY
 clear cHZ lHZ
 refine wk_ext rfl rfl (fun we hbe J hJ => ?_)
 go_simp
 have hx : Below u3.heap.size u3 we := belA
 have HX2 := Lib.hid (Bt HB.out hx)
 refine (HS3.out _ HX2.out).mono ?_
 rintro e u4 ⟨ac, cc, rfl, h, hm⟩
 have hy := Bt hx h
 refine hJ _ _ h ?_
 clear hJ J hbe hx h HX2
 replace HX := Lib.hid (HX.out.later hy)
 replace HY := Lib.hid (HY.out.later hy)
 replace HZ := Lib.hid (HZ.out.later hy)
 replace FA := Lib.hid (FA.out.later hy)
 replace FB := Lib.hid (FB.out.later hy)
 replace HB := Lib.hid (Bt HB.out hy)
 replace HR0 := Lib.hid (Bt HR0.out hy)
 clear hy
 have FC := Lib.hid hm
 clear hm
 have cHX := HX.out.cell
 have lHX := HX.out.lt
 have cHY := HY.out.cell
 have lHY := HY.out.lt
 have cHZ := HZ.out.cell
 have lHZ := HZ.out.lt
 repeat (first | (apply wk_skip; (rfl); (rfl); (rfl); (intro J hJ; go_simp; (with_reducible refine hJ _ ?_); clear hJ J)) | (apply wk_len; (rfl); (rfl); (rfl); (rfl); (exact (by kernel_rfl)); (intro J hJ; go_simp; (with_reducible refine hJ _ ?_); clear hJ J)) | (apply wk_pure; (rfl); (rfl); (intro J hJ; go_simp; (with_reducible refine hJ _ ?_); clear hJ J)) | (apply wk_load; (rfl); (rfl); (rfl); (rfl); (intro J hJ; go_simp; (with_reducible refine hJ _ ?_); clear hJ J; try go_simp)))
 clear cHX lHX
 clear cHY lHY
 clear cHZ lHZ
 refine wk_fin [_, _, _] rfl (fun u5 hbf => ?_)
 have hy : Below u4.heap.size u4 u5 := belA
 replace HX := Lib.hid (HX.out.later hy)
 replace HY := Lib.hid (HY.out.later hy)
 replace HZ := Lib.hid (HZ.out.later hy)
 replace FA := Lib.hid (FA.out.later hy)
 replace FB := Lib.hid (FB.out.later hy)
 replace FC := Lib.hid (FC.out.later hy)
 replace HB := Lib.hid (Bt HB.out hy)
 clear hy hbf HR0
 go_wp2_with fail
 refine (HP1.out _ _ _ FA.out FB.out (HP.out.later HB.out)).mono ?_
 rintro e u6 ⟨aFP, cFP, rfl, h, hm⟩
 replace HX := Lib.hid (HX.out.later h)
 replace HY := Lib.hid (HY.out.later h)
 replace HZ := Lib.hid (HZ.out.later h)
 replace FA := Lib.hid (FA.out.later h)
 replace FB := Lib.hid (FB.out.later h)
 replace FC := Lib.hid (FC.out.later h)
 replace HB := Lib.hid (Bt HB.out h)
 clear h
 have FP := Lib.hid hm
 clear hm
 go_wp2_with fail
 refine (HR1.out _ _ _ FP.out FC.out (HP.out.later HB.out)).mono ?_
 rintro e u7 ⟨aFR, cFR, rfl, h, hm⟩
 replace HX := Lib.hid (HX.out.later h)
 replace HY := Lib.hid (HY.out.later h)
 replace HZ := Lib.hid (HZ.out.later h)
 replace FA := Lib.hid (FA.out.later h)
 replace FB := Lib.hid (FB.out.later h)
 replace FC := Lib.hid (FC.out.later h)
 replace FP := Lib.hid (FP.out.later h)
 replace HB := Lib.hid (Bt HB.out h)
 clear h
 have FR := Lib.hid hm
 clear hm
 go_wp2_with fail
 refine (HS.out _ _ _ FB.out FC.out (HP.out.later HB.out)).mono ?_
 rintro e u8 ⟨aFS, cFS, rfl, h, hm⟩
 replace HX := Lib.hid (HX.out.later h)
 replace HY := Lib.hid (HY.out.later h)
 replace HZ := Lib.hid (HZ.out.later h)
 replace FA := Lib.hid (FA.out.later h)
 replace FB := Lib.hid (FB.out.later h)
 replace FC := Lib.hid (FC.out.later h)
 replace FP := Lib.hid (FP.out.later h)
 replace FR := Lib.hid (FR.out.later h)
 replace HB := Lib.hid (Bt HB.out h)
 clear h
 have FS := Lib.hid hm
 clear hm
 go_wp2_with fail
 refine (HT1.out _ _ _ FA.out FS.out (HP.out.later HB.out)).mono ?_
 rintro e u9 ⟨aFT, cFT, rfl, h, hm⟩
 replace HX := Lib.hid (HX.out.later h)
 replace HY := Lib.hid (HY.out.later h)
 replace HZ := Lib.hid (HZ.out.later h)
 replace FA := Lib.hid (FA.out.later h)
 replace FB := Lib.hid (FB.out.later h)
 replace FC := Lib.hid (FC.out.later h)
 replace FP := Lib.hid (FP.out.later h)
 replace FR := Lib.hid (FR.out.later h)
 replace FS := Lib.hid (FS.out.later h)
 replace HB := Lib.hid (Bt HB.out h)
 clear h
 have FT := Lib.hid hm
 clear hm
 go_wp2_with fail
 refine (HI.out _).mono ?_
 rintro e u10 ⟨ai, ci, rfl, h, hm⟩
 replace HX := Lib.hid (HX.out.later h)
 replace HY := Lib.hid (HY.out.later h)
 replace HZ := Lib.hid (HZ.out.later h)
 replace FA := Lib.hid (FA.out.later h)
 replace FB := Lib.hid (FB.out.later h)
 replace FC := Lib.hid (FC.out.later h)
 replace FP := Lib.hid (FP.out.later h)
 replace FR := Lib.hid (FR.out.later h)
 replace FS := Lib.hid (FS.out.later h)
 replace FT := Lib.hid (FT.out.later h)
 replace HB := Lib.hid (Bt HB.out h)
 clear h
 have FI := Lib.hid hm
 clear hm
 go_wp2_with fail
 refine (HSA.out _ _ _ FI.out FC.out (HP.out.later HB.out)).mono ?_
 rintro e u11 ⟨aFE, cFE, rfl, h, hm⟩
 replace HX := Lib.hid (HX.out.later h)
 replace HY := Lib.hid (HY.out.later h)
 replace HZ := Lib.hid (HZ.out.later h)
 replace FA := Lib.hid (FA.out.later h)
 replace FB := Lib.hid (FB.out.later h)
 replace FC := Lib.hid (FC.out.later h)
 replace FP := Lib.hid (FP.out.later h)
 replace FR := Lib.hid (FR.out.later h)
 replace FS := Lib.hid (FS.out.later h)
 replace FT := Lib.hid (FT.out.later h)
 replace FI := Lib.hid (FI.out.later h)
 replace HB := Lib.hid (Bt HB.out h)
 clear h
 have FE := Lib.hid hm
 clear hm
 go_wp2_with fail
 refine (matrix.Same_ok _ _ RM2 _ FR.out FT.out).mono ?_
 rintro e u12 ⟨rfl, h⟩
 replace HX := Lib.hid (HX.out.later h)
 replace HY := Lib.hid (HY.out.later h)
 replace HZ := Lib.hid (HZ.out.later h)
 replace FA := Lib.hid (FA.out.later h)
 replace FB := Lib.hid (FB.out.later h)
 replace FC := Lib.hid (FC.out.later h)
 replace FP := Lib.hid (FP.out.later h)
 replace FR := Lib.hid (FR.out.later h)
 replace FS := Lib.hid (FS.out.later h)
 replace FT := Lib.hid (FT.out.later h)
 replace FI := Lib.hid (FI.out.later h)
 replace FE := Lib.hid (FE.out.later h)
 replace HB := Lib.hid (Bt HB.out h)
 clear h
 go_wp2_with fail
 refine (matrix.Same_ok _ _ C _ FE.out FC.out).mono ?_
 rintro e u13 ⟨rfl, h⟩
 replace HX := Lib.hid (HX.out.later h)
 replace HY := Lib.hid (HY.out.later h)
 replace HZ := Lib.hid (HZ.out.later h)
 replace FA := Lib.hid (FA.out.later h)
 replace FB := Lib.hid (FB.out.later h)
 replace FC := Lib.hid (FC.out.later h)
 replace FP := Lib.hid (FP.out.later h)
 replace FR := Lib.hid (FR.out.later h)
 replace FS := Lib.hid (FS.out.later h)
 replace FT := Lib.hid (FT.out.later h)
 replace FI := Lib.hid (FI.out.later h)
 replace FE := Lib.hid (FE.out.later h)
 replace HB := Lib.hid (Bt HB.out h)
 clear h
 go_wp2_with fail
 refine (HD1.out _ _ FA.out (HP.out.later HB.out)).mono ?_
 rintro e u14 ⟨rfl, h⟩
 replace HX := Lib.hid (HX.out.later h)
 replace HY := Lib.hid (HY.out.later h)
 replace HZ := Lib.hid (HZ.out.later h)
 replace FA := Lib.hid (FA.out.later h)
 replace FB := Lib.hid (FB.out.later h)
 replace FC := Lib.hid (FC.out.later h)
 replace FP := Lib.hid (FP.out.later h)
 replace FR := Lib.hid (FR.out.later h)
 replace FS := Lib.hid (FS.out.later h)
 replace FT := Lib.hid (FT.out.later h)
 replace FI := Lib.hid (FI.out.later h)
 replace FE := Lib.hid (FE.out.later h)
 replace HB := Lib.hid (Bt HB.out h)
 clear h
 go_wp2_with fail
 obtain ⟨wd14, EW, h, G1⟩ := al1 u14 #[.string s1, .string t1] 59
 rw [EW]
 clear EW
 obtain ⟨bd14, eb⟩ : ∃ y, u14.heap.size = y := ⟨_, rfl⟩
 rw [eb] at G1 ⊢
 clear eb
 replace HX := Lib.hid (HX.out.later h)
 replace HY := Lib.hid (HY.out.later h)
 replace HZ := Lib.hid (HZ.out.later h)
 replace FA := Lib.hid (FA.out.later h)
 replace FB := Lib.hid (FB.out.later h)
 replace FC := Lib.hid (FC.out.later h)
 replace FP := Lib.hid (FP.out.later h)
 replace FR := Lib.hid (FR.out.later h)
 replace FS := Lib.hid (FS.out.later h)
 replace FT := Lib.hid (FT.out.later h)
 replace FI := Lib.hid (FI.out.later h)
 replace FE := Lib.hid (FE.out.later h)
 replace HB := Lib.hid (Bt HB.out h)
 clear h
 refine (HD2.out _ _ FB.out (HP.out.later HB.out)).mono ?_
 rintro e u15 ⟨rfl, h⟩
 replace HX := Lib.hid (HX.out.later h)
 replace HY := Lib.hid (HY.out.later h)
 replace HZ := Lib.hid (HZ.out.later h)
 replace FA := Lib.hid (FA.out.later h)
 replace FB := Lib.hid (FB.out.later h)
 replace FC := Lib.hid (FC.out.later h)
 replace FP := Lib.hid (FP.out.later h)
 replace FR := Lib.hid (FR.out.later h)
 replace FS := Lib.hid (FS.out.later h)
 replace FT := Lib.hid (FT.out.later h)
 replace FI := Lib.hid (FI.out.later h)
 replace FE := Lib.hid (FE.out.later h)
 replace G1 := Lib.hid (G1.out.later h)
 replace HB := Lib.hid (Bt HB.out h)
 clear h
 go_wp2_with fail
 obtain ⟨wd15, EW, h, G2⟩ := al1 u15 #[.string s2, .string t2] 59
 rw [EW]
 clear EW
 obtain ⟨bd15, eb⟩ : ∃ y, u15.heap.size = y := ⟨_, rfl⟩
 rw [eb] at G2 ⊢
 clear eb
 replace HX := Lib.hid (HX.out.later h)
 replace HY := Lib.hid (HY.out.later h)
 replace HZ := Lib.hid (HZ.out.later h)
 replace FA := Lib.hid (FA.out.later h)
 replace FB := Lib.hid (FB.out.later h)
 replace FC := Lib.hid (FC.out.later h)
 replace FP := Lib.hid (FP.out.later h)
 replace FR := Lib.hid (FR.out.later h)
 replace FS := Lib.hid (FS.out.later h)
 replace FT := Lib.hid (FT.out.later h)
 replace FI := Lib.hid (FI.out.later h)
 replace FE := Lib.hid (FE.out.later h)
 replace G1 := Lib.hid (G1.out.later h)
 replace HB := Lib.hid (Bt HB.out h)
 clear h
 refine (HD3.out _ _ FP.out (HP.out.later HB.out)).mono ?_
 rintro e u16 ⟨rfl, h⟩
 replace HX := Lib.hid (HX.out.later h)
 replace HY := Lib.hid (HY.out.later h)
 replace HZ := Lib.hid (HZ.out.later h)
 replace FA := Lib.hid (FA.out.later h)
 replace FB := Lib.hid (FB.out.later h)
 replace FC := Lib.hid (FC.out.later h)
 replace FP := Lib.hid (FP.out.later h)
 replace FR := Lib.hid (FR.out.later h)
 replace FS := Lib.hid (FS.out.later h)
 replace FT := Lib.hid (FT.out.later h)
 replace FI := Lib.hid (FI.out.later h)
 replace FE := Lib.hid (FE.out.later h)
 replace G1 := Lib.hid (G1.out.later h)
 replace G2 := Lib.hid (G2.out.later h)
 replace HB := Lib.hid (Bt HB.out h)
 clear h
 have cG1 := G1.out.cell
 have lG1 := G1.out.lt
 have cG2 := G2.out.cell
 have lG2 := G2.out.lt
 go_wp2_with fail
 clear cG1 lG1
 clear cG2 lG2
 obtain ⟨wd16, EW, h, G3⟩ := al1 u16 #[.string s3, .string t3] 59
 rw [EW]
 clear EW
 obtain ⟨bd16, eb⟩ : ∃ y, u16.heap.size = y := ⟨_, rfl⟩
 rw [eb] at G3 ⊢
 clear eb
 replace HX := Lib.hid (HX.out.later h)
 replace HY := Lib.hid (HY.out.later h)
 replace HZ := Lib.hid (HZ.out.later h)
 replace FA := Lib.hid (FA.out.later h)
 replace FB := Lib.hid (FB.out.later h)
 replace FC := Lib.hid (FC.out.later h)
 replace FP := Lib.hid (FP.out.later h)
 replace FR := Lib.hid (FR.out.later h)
 replace FS := Lib.hid (FS.out.later h)
 replace FT := Lib.hid (FT.out.later h)
 replace FI := Lib.hid (FI.out.later h)
 replace FE := Lib.hid (FE.out.later h)
 replace G1 := Lib.hid (G1.out.later h)
 replace G2 := Lib.hid (G2.out.later h)
 replace HB := Lib.hid (Bt HB.out h)
 clear h
 refine (HFM.out _ (HP.out.later HB.out)).mono ?_
 rintro e u17 ⟨rfl, h⟩
 replace HX := Lib.hid (HX.out.later h)
 replace HY := Lib.hid (HY.out.later h)
 replace HZ := Lib.hid (HZ.out.later h)
 replace FA := Lib.hid (FA.out.later h)
 replace FB := Lib.hid (FB.out.later h)
 replace FC := Lib.hid (FC.out.later h)
 replace FP := Lib.hid (FP.out.later h)
 replace FR := Lib.hid (FR.out.later h)
 replace FS := Lib.hid (FS.out.later h)
 replace FT := Lib.hid (FT.out.later h)
 replace FI := Lib.hid (FI.out.later h)
 replace FE := Lib.hid (FE.out.later h)
 replace G1 := Lib.hid (G1.out.later h)
 replace G2 := Lib.hid (G2.out.later h)
 replace G3 := Lib.hid (G3.out.later h)
 replace HB := Lib.hid (Bt HB.out h)
 clear h
 have cG3 := G3.out.cell
 have lG3 := G3.out.lt
 go_wp2_with fail
 clear cG3 lG3
 go_ret
 exact ⟨rfl, Bt HB.out belA⟩
theorem groups_ok (r c r1 c1 r2 c2 : Int) (v v1 v2 : Value) (w : World) (hr : 0 ≤ r ∧ r ≤ 255) (hc2 : 0 ≤ c2 ∧ c2 ≤ 255) (ht : Bld.Pow w) (he : whole.Er w) (hv : Drafts w v) (hv1 : Drafts w v1) (hv2 : Drafts w v2) :
  Calls Tryz.prog 8 #[.agg #[.int .u8 r, .int .u8 c, v], .agg #[.int .u8 r1, .int .u8 c1, v1], .agg #[.int .u8 r2, .int .u8 c2, v2]] w (fun e w' => e = .returned (.bool true) ∧ Below w.heap.size w w') := by
 obtain ⟨G, hG⟩ := DrG.of r c hv
 obtain ⟨G1, hG1⟩ := DrG.of r1 c1 hv1
 obtain ⟨G2, hG2⟩ := DrG.of r2 c2 hv2
 obtain ⟨n, hn⟩ : ∃ n : Nat, 1 + r % 4 = (n : Int) := ⟨(1 + r % 4).toNat, by omega⟩
 obtain ⟨m, hm⟩ : ∃ m : Nat, 1 + c2 % 4 = (m : Int) := ⟨(1 + c2 % 4).toNat, by omega⟩
 have n1 : 1 ≤ n ∧ n ≤ 4 := by omega
 have m1 : 1 ≤ m ∧ m ≤ 4 := by omega
 obtain ⟨f, hf⟩ : ∃ f : Nat → Nat → Rat, f = fun i j => G (4 * i + j) := ⟨_, rfl⟩
 obtain ⟨g, hg⟩ : ∃ f : Nat → Nat → Rat, f = fun i j => G1 (4 * i + j) := ⟨_, rfl⟩
 obtain ⟨h, hh⟩ : ∃ f : Nat → Nat → Rat, f = fun i j => G2 (4 * i + j) := ⟨_, rfl⟩
 have fs : ∀ i j, Sm (f i j) := fun i j => by rw [hf]; exact hG.1 _
 have gs : ∀ i j, Sm (g i j) := fun i j => by rw [hg]; exact hG1.1 _
 have hs : ∀ i j, Sm (h i j) := fun i j => by rw [hh]; exact hG2.1 _
 obtain ⟨p, hp⟩ : ∃ p : Nat → Nat → Rat, p = fun i j => smR n fun l => f i l * g l j := ⟨_, rfl⟩
 obtain ⟨s, hs'⟩ : ∃ p : Nat → Nat → Rat, p = fun i j => smR n fun l => g i l * h l j := ⟨_, rfl⟩
 have ph : ∀ i j, Ht 27 (p i j) := fun i j => by rw [hp]; exact (dot_ht (a := 3) (b := 3) n1 (fun l _ => (fs i l).ht) (fun l _ => (gs l j).ht)).mono (by omega)
 have sh : ∀ i j, Ht 27 (s i j) := fun i j => by rw [hs']; exact (dot_ht (a := 3) (b := 3) n1 (fun l _ => (gs i l).ht) (fun l _ => (hs l j).ht)).mono (by omega)
 have fo : ∀ i, i < n → ∀ j, j < n → okq (f i j) = true := fun i _ j _ => (fs i j).1
 have go : ∀ i, i < n → ∀ j, j < n → okq (g i j) = true := fun i _ j _ => (gs i j).1
 have ho : ∀ i, i < n → ∀ j, j < m → okq (h i j) = true := fun i _ j _ => (hs i j).1
 have po : ∀ i, i < n → ∀ j, j < n → okq (p i j) = true := fun i _ j _ => (ph i j).ok (by omega)
 have so : ∀ i, i < n → ∀ j, j < m → okq (s i j) = true := fun i _ j _ => (sh i j).ok (by omega)
 obtain ⟨a1, a2⟩ := mulE_mk n1 n1 n1 fo go (fun i hi j hj => by have := po i hi j hj; rw [hp] at this; exact this)
 obtain ⟨b1, b2⟩ := mulE_mk n1 n1 m1 po ho (fun i _ j _ => (dot_ht (a := 27) (b := 3) n1 (fun l _ => ph i l) (fun l _ => (hs l j).ht)).ok (by omega))
 obtain ⟨c1', c2'⟩ := mulE_mk n1 n1 m1 go ho (fun i hi j hj => by have := so i hi j hj; rw [hs'] at this; exact this)
 obtain ⟨d1, d2⟩ := mulE_mk n1 n1 m1 fo so (fun i _ j _ => (dot_ht (a := 3) (b := 27) n1 (fun l _ => (fs i l).ht) (fun l _ => sh l j)).ok (by omega))
 obtain ⟨e1, e2⟩ := mulE_mk n1 n1 m1 (f := dl) (g := h) (fun i _ j _ => dl_ok i j) ho (fun i hi j hj => by rw [smR_dl n1 hi (fun l => h l j)]; exact ho i hi j hj)
 rw [← hp] at a2
 rw [← hs'] at c2'
 have ea : (mkR n m fun i j => smR n fun l => f i l * s l j) = mkR n m fun i j => smR n fun l => p i l * h l j := mkR_congr fun i _ j _ => by
  rw [hs', hp]
  exact smR_swap n1 (f i) g (fun l => h l j)
 rw [ea] at d2
 have ee : (mkR n m fun i j => smR n fun l => dl i l * h l j) = mkR n m h := mkR_congr fun i hi j _ => smR_dl n1 hi (fun l => h l j)
 rw [ee] at e2
 have k1 : okq (dR n f) = true := ((dR_ht (a := 3) n1 fun i _ j _ => (fs i j).ht).mono (show 64 * 3 + 23 ≤ 215 by omega)).ok (by omega)
 have k2 : okq (dR n g) = true := ((dR_ht (a := 3) n1 fun i _ j _ => (gs i j).ht).mono (show 64 * 3 + 23 ≤ 215 by omega)).ok (by omega)
 have ep : dR n p = dR n f * dR n g := by rw [hp]; exact dR_mul n1 f g
 have k3 : okq (dR n p) = true := by
  rw [ep]
  exact (((dR_ht (a := 3) n1 fun i _ j _ => (fs i j).ht).mono (show 64 * 3 + 23 ≤ 215 by omega)).mul ((dR_ht (a := 3) n1 fun i _ j _ => (gs i j).ht).mono (show 64 * 3 + 23 ≤ 215 by omega))).ok (by omega)
 have det : ∀ {F : Nat → Nat → Rat}, (∀ i, i < n → ∀ j, j < n → okq (F i j) = true) → okq (dR n F) = true → detE (mkR n n F).fr = (⟨(Fr.of (dR n F)).n, (Fr.of (dR n F)).d⟩, 0) := fun h1 h2 => by rw [detE_mk n1 h1, wr_yes h2]
 have ln : ∀ {k : Nat} {F : Nat → Nat → Rat}, (mkR n k F).fr.length = n := by intro k F; rw [fr_len, mkR_len]
 have mu : ∀ {A B : List (List Fr)} {k : Nat} {F : Nat → Nat → Rat}, mulE A B = 0 → mulM A B = (mkR n k F).fr → MuC A B n (mkR n k F).fr := fun h1 h2 a b W x y z => (mul_yes h1 h2 a b W x y z).mono fun _ _ q => q.n ln
 refine groups_main r c r1 c1 r2 c2 v v1 v2 n m _ _ _ _ _ _ (mkR n n f).fr (mkR n n g).fr (mkR n m h).fr (mkR n n p).fr _ (mkR n m s).fr (mkR n n dl).fr w hr hc2 hn hm ht he hv hv1 hv2
  (Lib.hid fun W hW => by rw [hf]; exact sized_G hG hv n n n1.2 n1.2 W hW) (Lib.hid fun W hW => by rw [hg]; exact sized_G hG1 hv1 n n n1.2 n1.2 W hW) (Lib.hid fun W hW => by rw [hh]; exact sized_G hG2 hv2 n m n1.2 m1.2 W hW)
  (Lib.hid (mu a1 a2)) (Lib.hid (mu b1 b2)) (Lib.hid (mu c1' c2')) (Lib.hid (mu d1 d2)) (Lib.hid fun W => (id_yes (R := (mkR n n dl).fr) (idE_ok n1) (by rw [Int.toNat_natCast]; exact one_mk n1) W).mono fun _ _ q => q.n ln) (Lib.hid (mu e1 e2))
  (Lib.hid (det_is (det fo k1))) (Lib.hid (det_is (det go k2))) (Lib.hid (det_is (det po k3))) (Lib.hid fun W hW => ?_)
 have := frac.Mul_ok (Fr.of (dR n f)) (Fr.of (dR n g)) W hW
 rw [show mulF (Fr.of (dR n f)) (Fr.of (dR n g)) = (Fr.of (dR n p), 0) by unfold mulF; rw [bin_some (rd_of k1) (rd_of k2), ep, ← ep, wr_yes k3]] at this
 exact this
end Go.Proofs.verdigrislaw05
