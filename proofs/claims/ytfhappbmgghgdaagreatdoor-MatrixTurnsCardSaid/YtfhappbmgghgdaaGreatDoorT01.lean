/- Lemmas for the proof. No condition. -/
import Derived.Test.YtfhappbmgghgdaaGreatDoorNB01
import Derived.Test.YtfhappbmgghgdaaGreatDoorNB02
import Derived.Test.YtfhappbmgghgdaaGreatDoorNB03
import Derived.Test.YtfhappbmgghgdaaGreatDoorNB04
import Derived.Test.YtfhappbmgghgdaaGreatDoorNB05
import Derived.Test.YtfhappbmgghgdaaGreatDoorNB06
import Derived.Test.YtfhappbmgghgdaaGreatDoorNB07
import Derived.Test.YtfhappbmgghgdaaGreatDoorNB08
import Derived.Test.YtfhappbmgghgdaaGreatDoorNB09
import Derived.Test.YtfhappbmgghgdaaGreatDoorNB10
import Derived.Test.YtfhappbmgghgdaaGreatDoorNB11
import Derived.Test.YtfhappbmgghgdaaGreatDoorNB12
import Derived.Test.YtfhappbmgghgdaaGreatDoorNB13
import Derived.Test.YtfhappbmgghgdaaGreatDoorNB14
import Derived.Test.YtfhappbmgghgdaaGreatDoorNB15
import Derived.Test.YtfhappbmgghgdaaGreatDoorNB16
import Derived.Test.YtfhappbmgghgdaaGreatDoorNB17
import Derived.Test.YtfhappbmgghgdaaGreatDoorNB18
set_option linter.unusedVariables false
set_option linter.unusedSimpArgs false
namespace Go.Proofs.frac
open Go Go.RowKit Go.SW Go.Num Go.Mem Go.Proofs Go.Dec Go.Fra
set_option maxRecDepth 10000 in
set_option maxHeartbeats 4000000 in
theorem mul_ok (x y : Value) (p q : Rat) (w : World) (hx : RatV w x p) (hy : RatV w y q) (kp : szq 1000000 p) (kq : szq 1000000 q) :
  Calls Tryz.prog 94 #[x, y] w (fun e w' => ∃ v, e = .returned v ∧ Below w.heap.size w w' ∧ RatV w' v (p * q)) := by
 obtain ⟨paH, lH, caH, pbH, mH, cbH, rfl, H, Hd⟩ := hx; replace H := Lib.hid H; replace Hd := Lib.hid Hd
 obtain ⟨paG, lG, caG, pbG, mG, cbG, rfl, G, Gd⟩ := hy; replace G := Lib.hid G; replace Gd := Lib.hid Gd
 have HP := Lib.hid (mul_parts3 p q)
 have hp := p.den_pos
 have hq := q.den_pos
 have hg : 0 < p.num.natAbs.gcd q.den := Nat.gcd_pos_of_pos_right _ hq
 have hh : 0 < q.num.natAbs.gcd p.den := Nat.gcd_pos_of_pos_right _ hp
 obtain ⟨kp1, kp2⟩ := kp
 obtain ⟨kq1, kq2⟩ := kq
 obtain ⟨g, Eg⟩ : ∃ y : Nat, Hid (p.num.natAbs.gcd q.den = y) := ⟨_, Lib.hid rfl⟩
 rw [Eg.out] at hg HP
 obtain ⟨h, Eh⟩ : ∃ y : Nat, Hid (q.num.natAbs.gcd p.den = y) := ⟨_, Lib.hid rfl⟩
 rw [Eh.out] at hh HP
 have k1 := @sz_div p.num.natAbs g
 have k2 := @sz_div p.den h
 have k3 := @sz_div q.num.natAbs h
 have k4 := @sz_div q.den g
 obtain ⟨a, Ea⟩ : ∃ y : Nat, Hid (p.num.natAbs / g = y) := ⟨_, Lib.hid rfl⟩
 rw [Ea.out] at HP k1
 obtain ⟨b, Eb⟩ : ∃ y : Nat, Hid (p.den / h = y) := ⟨_, Lib.hid rfl⟩
 rw [Eb.out] at HP k2
 obtain ⟨c, Ec⟩ : ∃ y : Nat, Hid (q.num.natAbs / h = y) := ⟨_, Lib.hid rfl⟩
 rw [Ec.out] at HP k3
 obtain ⟨d, Ed⟩ : ∃ y : Nat, Hid (q.den / g = y) := ⟨_, Lib.hid rfl⟩
 rw [Ed.out] at HP k4
 obtain ⟨s, Es⟩ : ∃ y : Nat, Hid (a * c = y) := ⟨_, Lib.hid rfl⟩
 rw [Es.out] at HP
 obtain ⟨t, Et⟩ : ∃ y : Nat, Hid (b * d = y) := ⟨_, Lib.hid rfl⟩
 rw [Et.out] at HP
 have HGp := Lib.hid hg
 have HHp := Lib.hid hh
 have Kpn : Hid (sz 1000000000 p.num.natAbs ≤ 549755813888) := by unfold Hid; omega
 have Kqn : Hid (sz 1000000000 q.num.natAbs ≤ 549755813888) := by unfold Hid; omega
 have Kpd : Hid (sz 1000000000 p.den ≤ 549755813888) := by unfold Hid; omega
 have Kqd : Hid (sz 1000000000 q.den ≤ 549755813888) := by unfold Hid; omega
 have Ka : Hid (sz 1000000000 a ≤ 1099511627776) := by unfold Hid; omega
 have Kb : Hid (sz 1000000000 b ≤ 1099511627776) := by unfold Hid; omega
 have Kc : Hid (sz 1000000000 c ≤ 1099511627776) := by unfold Hid; omega
 have Kd : Hid (sz 1000000000 d ≤ 1099511627776) := by unfold Hid; omega
 clear k1 k2 k3 k4 kp1 kp2 kq1 kq2 hg hh hp hq
 go_enter Tryz.func94, Tryz.ntmps94
 go_wp2_with fail
 refine ((gcd_ok _ _ p.num.natAbs q.den _ magA magA Kpn.out Kqd.out).mono (by rw [Eg.out]; exact fun _ _ h => h)).mono ?_
 rintro e v1 ⟨v, rfl, hc1, hv⟩
 obtain ⟨paMg, lMg, caMg, rfl⟩ := hv.slice; have Mg := Lib.hid hv; clear hv
 replace H := Lib.hid (Mag.carry H.out magA hc1)
 replace Hd := Lib.hid (Mag.carry Hd.out magA hc1)
 replace G := Lib.hid (Mag.carry G.out magA hc1)
 replace Gd := Lib.hid (Mag.carry Gd.out magA hc1)
 have BR := Box.later (Box.at2 _ _ _ _ _) hc1; have cBR := BR.cell; have fBR := BR.free
 have B1 := Box.later (Box.alloc (Box.at1 _ _ _ _) _) hc1; have cB1 := B1.cell; have fB1 := B1.free
 have B0 := Box.later (Box.alloc (Box.alloc (Box.new _ _ _) _) _) hc1; have cB0 := B0.cell; have fB0 := B0.free
 go_wp2_with fail
 refine ((gcd_ok _ _ q.num.natAbs p.den _ magA magA Kqn.out Kpd.out).mono (by rw [Eh.out]; exact fun _ _ h => h)).mono ?_
 rintro e v2 ⟨v, rfl, hc2, hv⟩
 obtain ⟨paMh, lMh, caMh, rfl⟩ := hv.slice; have Mh := Lib.hid hv; clear hv
 replace H := Lib.hid (Mag.later H.out hc2)
 replace Hd := Lib.hid (Mag.later Hd.out hc2)
 replace G := Lib.hid (Mag.later G.out hc2)
 replace Gd := Lib.hid (Mag.later Gd.out hc2)
 replace Mg := Lib.hid (Mag.later Mg.out hc2)
 replace BR := Box.later (BR) hc2; replace cBR := BR.cell; replace fBR := BR.free
 replace B1 := Box.later (B1) hc2; replace cB1 := B1.cell; replace fB1 := B1.free
 replace B0 := Box.later (B0) hc2; replace cB0 := B0.cell; replace fB0 := B0.free
 go_wp2_with fail
 refine ((divide_ok _ _ p.num.natAbs g _ magA magA HGp.out Kpn.out).mono (by rw [Ea.out]; exact fun _ _ h => h)).mono ?_
 rintro e v3 ⟨v, vr, rfl, hc3, hv, hvr⟩
 obtain ⟨paMa, lMa, caMa, rfl⟩ := hv.slice; have Ma := Lib.hid hv; clear hv; obtain ⟨paMar, lMar, caMar, rfl⟩ := hvr.slice; have Mar := Lib.hid hvr; clear hvr
 replace Hd := Lib.hid (Mag.later Hd.out hc3)
 replace G := Lib.hid (Mag.later G.out hc3)
 replace Gd := Lib.hid (Mag.later Gd.out hc3)
 replace Mg := Lib.hid (Mag.later Mg.out hc3)
 replace Mh := Lib.hid (Mag.later Mh.out hc3)
 replace BR := Box.later (BR) hc3; replace cBR := BR.cell; replace fBR := BR.free
 replace B1 := Box.later (B1) hc3; replace cB1 := B1.cell; replace fB1 := B1.free
 replace B0 := Box.later (B0) hc3; replace cB0 := B0.cell; replace fB0 := B0.free
 go_wp2_with fail
 clear Mar H
 refine ((divide_ok _ _ p.den h _ magA magA HHp.out Kpd.out).mono (by rw [Eb.out]; exact fun _ _ h => h)).mono ?_
 rintro e v4 ⟨v, vr, rfl, hc4, hv, hvr⟩
 obtain ⟨paMb, lMb, caMb, rfl⟩ := hv.slice; have Mb := Lib.hid hv; clear hv; obtain ⟨paMbr, lMbr, caMbr, rfl⟩ := hvr.slice; have Mbr := Lib.hid hvr; clear hvr
 replace G := Lib.hid (Mag.later G.out hc4)
 replace Gd := Lib.hid (Mag.later Gd.out hc4)
 replace Mg := Lib.hid (Mag.later Mg.out hc4)
 replace Mh := Lib.hid (Mag.later Mh.out hc4)
 replace Ma := Lib.hid (Mag.later Ma.out hc4)
 replace BR := Box.later (BR) hc4; replace cBR := BR.cell; replace fBR := BR.free
 replace B1 := Box.later (B1) hc4; replace cB1 := B1.cell; replace fB1 := B1.free
 replace B0 := Box.later (B0) hc4; replace cB0 := B0.cell; replace fB0 := B0.free
 go_wp2_with fail
 clear Mbr Hd
 refine ((divide_ok _ _ q.num.natAbs h _ magA magA HHp.out Kqn.out).mono (by rw [Ec.out]; exact fun _ _ h => h)).mono ?_
 rintro e v5 ⟨v, vr, rfl, hc5, hv, hvr⟩
 obtain ⟨paMc, lMc, caMc, rfl⟩ := hv.slice; have Mc := Lib.hid hv; clear hv; obtain ⟨paMcr, lMcr, caMcr, rfl⟩ := hvr.slice; have Mcr := Lib.hid hvr; clear hvr
 replace Gd := Lib.hid (Mag.later Gd.out hc5)
 replace Mg := Lib.hid (Mag.later Mg.out hc5)
 replace Ma := Lib.hid (Mag.later Ma.out hc5)
 replace Mb := Lib.hid (Mag.later Mb.out hc5)
 replace BR := Box.later (BR) hc5; replace cBR := BR.cell; replace fBR := BR.free
 replace B1 := Box.later (B1) hc5; replace cB1 := B1.cell; replace fB1 := B1.free
 replace B0 := Box.later (B0) hc5; replace cB0 := B0.cell; replace fB0 := B0.free
 go_wp2_with fail
 clear Mcr G
 refine ((divide_ok _ _ q.den g _ magA magA HGp.out Kqd.out).mono (by rw [Ed.out]; exact fun _ _ h => h)).mono ?_
 rintro e v6 ⟨v, vr, rfl, hc6, hv, hvr⟩
 obtain ⟨paMd, lMd, caMd, rfl⟩ := hv.slice; have Md := Lib.hid hv; clear hv; obtain ⟨paMdr, lMdr, caMdr, rfl⟩ := hvr.slice; have Mdr := Lib.hid hvr; clear hvr
 replace Ma := Lib.hid (Mag.later Ma.out hc6)
 replace Mb := Lib.hid (Mag.later Mb.out hc6)
 replace Mc := Lib.hid (Mag.later Mc.out hc6)
 replace BR := Box.later (BR) hc6; replace cBR := BR.cell; replace fBR := BR.free
 replace B1 := Box.later (B1) hc6; replace cB1 := B1.cell; replace fB1 := B1.free
 replace B0 := Box.later (B0) hc6; replace cB0 := B0.cell; replace fB0 := B0.free
 go_wp2_with fail
 clear Mdr Gd
 refine wp_region_walk [(.pure, 0), (.pure, 1), (.pure, 3), (.pure, 4), (.read, 5), (.pure, 6), (.pure, 7), (.read, 8), (.pure, 9), (.pure, 11), (.pure, 12), (.ext, 2), (.ext, 10), (.ext, 13), (.pure, 14), (.fin, 15)] (by kernel_rfl) (by kernel_rfl) (allocRuns_of (by kernel_rfl)) (fun _ _ _ _ hd h => And.intro (hd.trans (And.left h)) (And.right h)) ?_
 repeat (first | (refine walk_pure0 rfl rfl (fun J hJ => ?_); go_simp; refine hJ _ ?_; clear hJ J) | (refine walk_load rfl rfl rfl rfl (fun J hJ => ?_); go_simp; refine hJ _ ?_; clear hJ J; try go_simp))
 refine walk_ext rfl rfl (fun w7 hb7 J hJ => ?_); go_simp
 replace Ma := Lib.hid (Mag.carry Ma.out magA hb7)
 replace Mb := Lib.hid (Mag.carry Mb.out magA hb7)
 replace Mc := Lib.hid (Mag.carry Mc.out magA hb7)
 replace Md := Lib.hid (Mag.carry Md.out magA hb7)
 replace BR := Box.later (Box.drew BR) hb7; replace cBR := BR.cell; replace fBR := BR.free
 refine ((times_ok _ _ a c _ magA magA Ka.out Kc.out).mono (by rw [Es.out]; exact fun _ _ h => h)).mono ?_
 rintro e v7 ⟨v, rfl, hc7, hv⟩
 obtain ⟨paMs, lMs, caMs, rfl⟩ := hv.slice; have Ms := Lib.hid hv; clear hv
 replace Ma := Lib.hid (Mag.later Ma.out hc7)
 replace Mb := Lib.hid (Mag.later Mb.out hc7)
 replace Mc := Lib.hid (Mag.later Mc.out hc7)
 replace Md := Lib.hid (Mag.later Md.out hc7)
 replace BR := Box.later (BR) hc7; replace cBR := BR.cell; replace fBR := BR.free
 refine hJ _ _ hc7 ?_
 clear hJ J
 refine walk_ext rfl rfl (fun w8 hb8 J hJ => ?_); go_simp
 replace Mb := Lib.hid (Mag.later Mb.out hb8)
 replace Md := Lib.hid (Mag.later Md.out hb8)
 replace Ms := Lib.hid (Mag.later Ms.out hb8)
 replace BR := Box.later (BR) hb8; replace cBR := BR.cell; replace fBR := BR.free
 refine (signed_ok _ s _ _ magA).mono ?_
 rintro e v8 ⟨v, rfl, hc8, hv⟩
 obtain ⟨paMv, lMv, caMv, rfl, Mv⟩ := hv; replace Mv := Lib.hid Mv
 replace Mb := Lib.hid (Mag.later Mb.out hc8)
 replace Md := Lib.hid (Mag.later Md.out hc8)
 replace Ms := Lib.hid (Mag.later Ms.out hc8)
 replace BR := Box.later (BR) hc8; replace cBR := BR.cell; replace fBR := BR.free
 refine hJ _ _ hc8 ?_
 clear hJ J
 refine walk_ext rfl rfl (fun w9 hb9 J hJ => ?_); go_simp
 replace Mb := Lib.hid (Mag.later Mb.out hb9)
 replace Md := Lib.hid (Mag.later Md.out hb9)
 replace Mv := Lib.hid (Mag.later Mv.out hb9)
 replace BR := Box.later (BR) hb9; replace cBR := BR.cell; replace fBR := BR.free
 refine ((times_ok _ _ b d _ magA magA Kb.out Kd.out).mono (by rw [Et.out]; exact fun _ _ h => h)).mono ?_
 rintro e v9 ⟨v, rfl, hc9, hv⟩
 obtain ⟨paMt, lMt, caMt, rfl⟩ := hv.slice; have Mt := Lib.hid hv; clear hv
 replace Mb := Lib.hid (Mag.later Mb.out hc9)
 replace Md := Lib.hid (Mag.later Md.out hc9)
 replace Mv := Lib.hid (Mag.later Mv.out hc9)
 replace BR := Box.later (BR) hc9; replace cBR := BR.cell; replace fBR := BR.free
 refine hJ _ _ hc9 ?_
 clear hJ J
 repeat (first | (refine walk_pure0 rfl rfl (fun J hJ => ?_); go_simp; refine hJ _ ?_; clear hJ J) | (refine walk_load rfl rfl rfl rfl (fun J hJ => ?_); go_simp; refine hJ _ ?_; clear hJ J; try go_simp))
 refine walk_fin [_] rfl (fun w14 hb14 => ?_)
 replace BR := Box.later (BR) hb14; replace cBR := BR.cell; replace fBR := BR.free
 go_wp2_with fail
 refine ret_c rfl rfl boxA Tryz.underlying153 rfl (by kernel_rfl) ?_
 exact ⟨_, rfl, belA, RatV.mk (sgd s (!(decide (p.num < 0) == decide (q.num < 0)))).natAbs t magA magA (by rw [HP.out.1]) HP.out.2.symm (by rw [HP.out.1])⟩
end Go.Proofs.frac
namespace Go.Proofs.frac
open Go Go.RowKit Go.SW Go.Num Go.Mem Go.Proofs Go.Dec Go.Fra
set_option maxRecDepth 10000 in
theorem result_bad (w : World) :
  Calls Tryz.prog 92 #[.agg #[.slice none 0 0, .bool false, .slice none 0 0], .int .i64 20] w (fun e w' => e = .returned (.tuple #[.agg #[.string ⟨#[]⟩, .string ⟨#[]⟩], .int .i64 20]) ∧ Below w.heap.size w w') := by
 go_enter Tryz.func92, Tryz.ntmps92
 go_wp2_with fail
 refine ret_ct rfl rfl boxA Tryz.underlying59 rfl (by kernel_rfl) ?_
 exact ⟨rfl, belA⟩
set_option maxRecDepth 10000 in
theorem result_ok (v : Value) (q : Rat) (w : World) (h : RatV w v q) (k : szq 1000000 q) (ht : Bld.Pow w) :
  Calls Tryz.prog 92 #[v, .int .i64 0] w (fun e w' => e = .returned (Fr.res (wr q)) ∧ Below w.heap.size w w') := by
 obtain ⟨paH, lH, caH, pbH, mH, cbH, rfl, H, Hd⟩ := h; replace H := Lib.hid H; replace Hd := Lib.hid Hd
 have HT := Lib.hid ht
 have K := Lib.hid k
 clear ht k
 obtain ⟨x, Ex⟩ : ∃ y : FrI, Hid (wr q = y) := ⟨_, Lib.hid rfl⟩
 rw [Ex.out]
 obtain ⟨⟨s, t⟩, e⟩ := x
 rw [res_mk]
 go_enter Tryz.func92, Tryz.ntmps92
 go_wp2_with fail
 refine ((write_ok _ q _ (RatV.of magA magA) K.out (HT.out.later belA)).mono (by rw [Ex.out, res_mk]; exact fun _ _ h => h)).mono ?_
 rintro e v1 ⟨rfl, hc1⟩
 have BR := Box.later (Box.at1 _ _ _ _) hc1; have cBR := BR.cell; have fBR := BR.free; have lBR := BR.lt
 go_wp2_with fail
 refine ret_ct rfl rfl boxA Tryz.underlying59 rfl (by kernel_rfl) ?_
 exact ⟨rfl, belA⟩
set_option maxRecDepth 10000 in
set_option maxHeartbeats 400000 in
theorem apply_mul (s t s' t' : ByteArray) (w : World) (p q : Rat) (h : rd ⟨s, t⟩ = some p) (k : rd ⟨s', t'⟩ = some q) :
  Calls Tryz.prog 93 #[.agg #[.string s, .string t], .agg #[.string s', .string t'], .func (.func 94) #[] #[]] w (fun e w' => ∃ v, e = .returned (.tuple #[v, .int .i64 0]) ∧ Below w.heap.size w w' ∧ RatV w' v (p * q)) := by
 have HR := Lib.hid (read_of h)
 have HS := Lib.hid (read_of k)
 have KP := Lib.hid ((okq_sz (of_rd h).2).mono (show 67 ≤ 1000000 by omega))
 have KQ := Lib.hid ((okq_sz (of_rd k).2).mono (show 67 ≤ 1000000 by omega))
 clear h k
 obtain ⟨r, Er⟩ : ∃ y : Rat, Hid (p * q = y) := ⟨_, Lib.hid rfl⟩
 rw [Er.out]
 go_enter Tryz.func93, Tryz.ntmps93
 go_wp2_with fail
 refine (HR.out _).mono ?_
 rintro e v1 ⟨v, rfl, hc1, hv⟩
 obtain ⟨paHp, lHp, caHp, pbHp, mHp, cbHp, rfl, Hp, Hpd⟩ := hv; replace Hp := Lib.hid Hp; replace Hpd := Lib.hid Hpd
 have BR := Box.later (Box.at2 _ _ _ _ _) hc1; have cBR := BR.cell; have fBR := BR.free; have lBR := BR.lt
 have B1 := Box.later (Box.alloc (Box.at1 _ _ _ _) _) hc1; have cB1 := B1.cell; have fB1 := B1.free; have lB1 := B1.lt
 go_wp2_with fail
 refine (HS.out _).mono ?_
 rintro e v2 ⟨v, rfl, hc2, hv⟩
 obtain ⟨paHq, lHq, caHq, pbHq, mHq, cbHq, rfl, Hq, Hqd⟩ := hv; replace Hq := Lib.hid Hq; replace Hqd := Lib.hid Hqd
 replace Hp := Lib.hid (Mag.carry Hp.out magA hc2)
 replace Hpd := Lib.hid (Mag.carry Hpd.out magA hc2)
 replace X1 : Box _ (v1.heap.size) _ _ := Box.later boxA hc2; (try simp only [List.setIfInBounds_toArray, List.set_cons_zero, List.set_cons_succ] at X1); replace cX1 := X1.cell; replace fX1 := X1.free; replace lX1 := X1.lt
 replace BR : Box _ (w.heap.size + 1 + 1) _ _ := Box.later boxA hc2; (try simp only [List.setIfInBounds_toArray, List.set_cons_zero, List.set_cons_succ] at BR); replace cBR := BR.cell; replace fBR := BR.free; replace lBR := BR.lt
 go_wp2_with fail
 refine ((mul_ok _ _ p q _ (RatV.of magA magA) (RatV.of magA magA) KP.out KQ.out).mono (by rw [Er.out]; exact fun _ _ h => h)).mono ?_
 rintro e v3 ⟨v, rfl, hc3, hv⟩
 obtain ⟨paHr, lHr, caHr, pbHr, mHr, cbHr, rfl, Hr, Hrd⟩ := hv; replace Hr := Lib.hid Hr; replace Hrd := Lib.hid Hrd
 replace BR : Box _ (w.heap.size + 1 + 1) _ _ := Box.later boxA hc3; (try simp only [List.setIfInBounds_toArray, List.set_cons_zero, List.set_cons_succ] at BR); replace cBR := BR.cell; replace fBR := BR.free; replace lBR := BR.lt
 go_wp2_with fail
 refine ret_ct rfl rfl boxA Tryz.underlying153 rfl (by kernel_rfl) ?_
 exact ⟨_, rfl, belA, RatV.of magA magA⟩
set_option maxRecDepth 10000 in
set_option maxHeartbeats 400000 in
theorem apply_mul_bad (s t s' t' : ByteArray) (w : World) (h : rd ⟨s, t⟩ = none ∨ rd ⟨s', t'⟩ = none) :
  Calls Tryz.prog 93 #[.agg #[.string s, .string t], .agg #[.string s', .string t'], .func (.func 94) #[] #[]] w (fun e w' => e = .returned (.tuple #[.agg #[.slice none 0 0, .bool false, .slice none 0 0], .int .i64 20]) ∧ Below w.heap.size w w') := by
 cases h1 : rd ⟨s, t⟩ with
 | none =>
  have HR := Lib.hid (read_not h1)
  cases k : rd ⟨s', t'⟩ with
  | none =>
   have HS := Lib.hid (read_not k)
   clear h k h1
   go_enter Tryz.func93, Tryz.ntmps93
   go_wp2_with fail
   refine (HR.out _).mono ?_
   rintro e v1 ⟨rfl, hc1⟩
   have BR := Box.later (Box.at2 _ _ _ _ _) hc1; have cBR := BR.cell; have fBR := BR.free; have lBR := BR.lt
   have B1 := Box.later (Box.alloc (Box.at1 _ _ _ _) _) hc1; have cB1 := B1.cell; have fB1 := B1.free; have lB1 := B1.lt
   go_wp2_with fail
   refine (HS.out _).mono ?_
   rintro e v2 ⟨rfl, hc2⟩
   replace BR : Box _ (w.heap.size + 1 + 1) _ _ := Box.later boxA hc2; replace cBR := BR.cell; replace fBR := BR.free; replace lBR := BR.lt
   have q1 : w.heap.size + 1 < v2.heap.size := by omega
   go_wp2_with fail
   refine ret_ct rfl rfl boxA Tryz.underlying153 rfl (by kernel_rfl) ?_
   exact ⟨rfl, belA⟩
  | some q =>
   have HS := Lib.hid (read_of k)
   clear h k h1
   go_enter Tryz.func93, Tryz.ntmps93
   go_wp2_with fail
   refine (HR.out _).mono ?_
   rintro e v1 ⟨rfl, hc1⟩
   have BR := Box.later (Box.at2 _ _ _ _ _) hc1; have cBR := BR.cell; have fBR := BR.free; have lBR := BR.lt
   have B1 := Box.later (Box.alloc (Box.at1 _ _ _ _) _) hc1; have cB1 := B1.cell; have fB1 := B1.free; have lB1 := B1.lt
   go_wp2_with fail
   refine (HS.out _).mono ?_
   rintro e v2 ⟨v, rfl, hc2, hv⟩
   obtain ⟨paHq, lHq, caHq, pbHq, mHq, cbHq, rfl, Hq, Hqd⟩ := hv; replace Hq := Lib.hid Hq; replace Hqd := Lib.hid Hqd
   replace BR : Box _ (w.heap.size + 1 + 1) _ _ := Box.later boxA hc2; replace cBR := BR.cell; replace fBR := BR.free; replace lBR := BR.lt
   have q1 : w.heap.size + 1 < v2.heap.size := by omega
   go_wp2_with fail
   refine ret_ct rfl rfl boxA Tryz.underlying153 rfl (by kernel_rfl) ?_
   exact ⟨rfl, belA⟩
 | some p =>
  have HR := Lib.hid (read_of h1)
  cases k : rd ⟨s', t'⟩ with
  | none =>
   have HS := Lib.hid (read_not k)
   clear h k h1
   go_enter Tryz.func93, Tryz.ntmps93
   go_wp2_with fail
   refine (HR.out _).mono ?_
   rintro e v1 ⟨v, rfl, hc1, hv⟩
   obtain ⟨paHp, lHp, caHp, pbHp, mHp, cbHp, rfl, Hp, Hpd⟩ := hv; replace Hp := Lib.hid Hp; replace Hpd := Lib.hid Hpd
   have BR := Box.later (Box.at2 _ _ _ _ _) hc1; have cBR := BR.cell; have fBR := BR.free; have lBR := BR.lt
   have B1 := Box.later (Box.alloc (Box.at1 _ _ _ _) _) hc1; have cB1 := B1.cell; have fB1 := B1.free; have lB1 := B1.lt
   go_wp2_with fail
   refine (HS.out _).mono ?_
   rintro e v2 ⟨rfl, hc2⟩
   replace BR : Box _ (w.heap.size + 1 + 1) _ _ := Box.later boxA hc2; replace cBR := BR.cell; replace fBR := BR.free; replace lBR := BR.lt
   have q1 : w.heap.size + 1 < v2.heap.size := by omega
   go_wp2_with fail
   refine ret_ct rfl rfl boxA Tryz.underlying153 rfl (by kernel_rfl) ?_
   exact ⟨rfl, belA⟩
  | some q => rw [h1, k] at h; simp at h
set_option maxRecDepth 10000 in
theorem Mul_ok (a b : Fr) (w : World) (ht : Bld.Pow w) :
  Calls Tryz.prog 45 #[a.v, b.v] w (fun e w' => e = .returned (Fr.res (mulF a b)) ∧ Below w.heap.size w w') := by
 obtain ⟨s, t⟩ := a
 obtain ⟨s', t'⟩ := b
 show Calls _ _ #[.agg #[.string s, .string t], .agg #[.string s', .string t']] _ _
 unfold mulF
 have HT := Lib.hid ht
 clear ht
 by_cases hbad : rd ⟨s, t⟩ = none ∨ rd ⟨s', t'⟩ = none
 ·have e : ∀ f, bin f ⟨s, t⟩ ⟨s', t'⟩ = (Fr.no, 20) := fun f => by
   rcases hbad with h | h
   ·exact bin_no1 h
   ·exact bin_no2 h
  rw [e]
  have HA := Lib.hid (fun w => apply_mul_bad s t s' t' w hbad)
  clear hbad e
  go_enter Tryz.func45, Tryz.ntmps45
  go_wp2_with fail
  refine (HA.out _).mono ?_
  rintro e v1 ⟨rfl, hc1⟩
  have BR := Box.later (Box.at2 _ _ _ _ _) hc1; have cBR := BR.cell; have fBR := BR.free; have lBR := BR.lt
  go_wp2_with fail
  refine (result_bad _).mono ?_
  rintro e v2 ⟨rfl, hc2⟩
  replace BR := Box.later (BR) hc2; replace cBR := BR.cell; replace fBR := BR.free; replace lBR := BR.lt
  go_wp2_with fail
  refine ret_ct rfl rfl boxA Tryz.underlying59 rfl (by kernel_rfl) ?_
  exact ⟨rfl, belA⟩
 ·obtain ⟨p, hp⟩ : ∃ p, rd ⟨s, t⟩ = some p := Option.ne_none_iff_exists'.1 (fun e => hbad (.inl e))
  obtain ⟨q, hq⟩ : ∃ q, rd ⟨s', t'⟩ = some q := Option.ne_none_iff_exists'.1 (fun e => hbad (.inr e))
  rw [bin_some hp hq]
  have KP := Lib.hid (okq_sz (of_rd hp).2)
  have KQ := Lib.hid (okq_sz (of_rd hq).2)
  have HA := Lib.hid (fun w => apply_mul s t s' t' w p q hp hq)
  have KR : Hid (szq 1000000 (p * q)) := Lib.hid (szq.mono (k := 135) ((szq_mul KP.out KQ.out).mono (by omega)) (by omega))
  clear hp hq hbad KP KQ
  obtain ⟨r, Er⟩ : ∃ y : Rat, Hid (p * q = y) := ⟨_, Lib.hid rfl⟩
  simp only [Er.out] at KR HA ⊢
  obtain ⟨x, Ex⟩ : ∃ y : FrI, Hid (wr r = y) := ⟨_, Lib.hid rfl⟩
  rw [Ex.out]
  obtain ⟨⟨s1, t1⟩, e⟩ := x
  rw [res_mk]
  go_enter Tryz.func45, Tryz.ntmps45
  go_wp2_with fail
  refine (HA.out _).mono ?_
  rintro e v1 ⟨v, rfl, hc1, hv⟩
  obtain ⟨paHr, lHr, caHr, pbHr, mHr, cbHr, rfl, Hr, Hrd⟩ := hv; replace Hr := Lib.hid Hr; replace Hrd := Lib.hid Hrd
  have BR := Box.later (Box.at2 _ _ _ _ _) hc1; have cBR := BR.cell; have fBR := BR.free; have lBR := BR.lt
  go_wp2_with fail
  refine ((result_ok _ r _ (RatV.of magA magA) KR.out (HT.out.later belA)).mono (by rw [Ex.out, res_mk]; exact fun _ _ h => h)).mono ?_
  rintro e v2 ⟨rfl, hc2⟩
  replace BR := Box.later (BR) hc2; replace cBR := BR.cell; replace fBR := BR.free; replace lBR := BR.lt
  go_wp2_with fail
  refine ret_ct rfl rfl boxA Tryz.underlying59 rfl (by kernel_rfl) ?_
  exact ⟨rfl, belA⟩
end Go.Proofs.frac
namespace Go.Proofs.verdigrislaw05
open Go Go.RowKit Go.SW Go.Num Go.Mem Go.Proofs Go.Dec Go.Fra Go.Proofs.matrix Go.Proofs.verdigrisref05
/-- Mul returns the matrix R of n rows. -/
def MuC (A B : List (List Fr)) (n : Nat) (R : List (List Fr)) : Prop := ∀ a b W, MatV W a A → MatV W b B → Bld.Pow W → Calls Tryz.prog 27 #[a, b] W (YesN W n R)
def DtC (A : List (List Fr)) (x y : ByteArray) : Prop := ∀ v W, MatV W v A → Bld.Pow W → Calls Tryz.prog 35 #[v] W (fun e w' => e = .returned (.tuple #[.agg #[.string x, .string y], .int .i64 0]) ∧ Below W.heap.size W w')
def FmC (x y z u s t : ByteArray) : Prop := ∀ W, Bld.Pow W → Calls Tryz.prog 45 #[.agg #[.string x, .string y], .agg #[.string z, .string u]] W (fun e w' => e = .returned (.tuple #[.agg #[.string s, .string t], .int .i64 0]) ∧ Below W.heap.size W w')
end Go.Proofs.verdigrislaw05
