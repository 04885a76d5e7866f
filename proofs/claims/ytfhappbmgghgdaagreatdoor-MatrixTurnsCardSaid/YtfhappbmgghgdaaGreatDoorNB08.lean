/- Lemmas for the proof. No condition. -/
import Derived.Test.YtfhappbmgghgdaaGreatDoorNB01
import Derived.Test.YtfhappbmgghgdaaGreatDoorNB04
import Derived.Test.YtfhappbmgghgdaaGreatDoorNB06
import Derived.Test.YtfhappbmgghgdaaGreatDoorNB07
set_option linter.unusedVariables false
set_option linter.unusedSimpArgs false
set_option maxRecDepth 100000
set_option maxHeartbeats 16000000
namespace Go.Proofs.frac
open Go Go.RowKit Go.SW Go.Num Go.Mem Go.Proofs Go.Dec Go.Fra
def in64 (z:Int):Bool:=decide (-9223372036854775808≤z∧z<9223372036854775808)
theorem Int_any (z:Int) (w:World) (he:whole.Er w) :
  Calls Tryz.prog 188 #[itxt z] w (fun e w'=>(∃ x k,(k=0↔in64 z=true)∧(in64 z=true→x=z)∧e= .returned (.tuple #[.int .i64 x,.int .i64 k]))∧Below w.heap.size w w'):=by
 cases h:okn z.natAbs with
 | true =>
  refine (whole.IntZ_ok z h w he).mono ?_
  rintro e w1 ⟨rfl,hb⟩
  refine ⟨?_,hb⟩
  unfold whole.intZ in64
  by_cases c: -9223372036854775808≤z∧z<9223372036854775808
  ·rw [if_pos c,decide_eq_true c]
   exact ⟨z,0,by simp,fun _=>rfl,rfl⟩
  ·rw [if_neg c,decide_eq_false c]
   exact ⟨0,6,by simp,(fun h=>by cases h),rfl⟩
 | false =>
  have hn:whole (Lib.itoa z)=none:=by
   cases e:whole (Lib.itoa z) with
   | none=>rfl
   | some n =>
    obtain ⟨h1,h2⟩:=whole_itoa e
    rw [← itoa_inj h1,← okn_len,h] at h2
    cases h2
  have hr:in64 z=false:=by
   unfold in64
   refine decide_eq_false fun c=>?_
   have h3:okn z.natAbs=true:=by
    unfold okn
    refine decide_eq_true (Nat.lt_of_lt_of_le (show z.natAbs<9223372036854775809 by omega) ?_)
    decide+kernel
   rw [h] at h3
   cases h3
  have HC:=zh (fun W=>check_no (s:=⟨(Lib.itoa z).toArray⟩) hn W)
  rw [hr]
  clear hn hr h
  unfold itxt
  generalize Lib.itoa z=t at *
  go_enter Tryz.func188,Tryz.ntmps188
  go_wp2_with fail
  refine (HC.out _).mono ?_
  rintro e w1 ⟨rfl,hb1⟩
  go_wp2_with fail
  go_ret2
  exact ⟨⟨0,10,by simp,(fun h=>by cases h),rfl⟩,hb1⟩
theorem near_le (N:Int) (d:Nat):(band.nearZ N d).natAbs≤2*N.natAbs+d:=by
 unfold band.nearZ
 have h1:=Int.natAbs_ediv_le_natAbs (2*N+(d:Int)) (2*(d:Int))
 have h2:=Int.natAbs_add_le (2*N) (d:Int)
 rw [Int.natAbs_mul,Int.natAbs_natCast] at h2
 omega
theorem Near_none (s t:ByteArray) (k:Int) (h:rd ⟨s,t⟩=none) (w:World) :
  Calls Tryz.prog 139 #[.agg #[.string s,.string t],.int .i64 k] w (fun e w'=>e= .returned (.tuple #[.int .i64 0,.int .i64 20])∧Below w.heap.size w w'):=by
 have HR:=zh (read_not h)
 clear h
 go_enter Tryz.func139,Tryz.ntmps139
 go_wp2_with fail
 refine (HR.out _).mono ?_
 rintro e v1 ⟨rfl,hc1⟩
 have BR:=Box.later (Box.new _ _ _) hc1;have cBR:=BR.cell;have fBR:=BR.free;have lBR:=BR.lt
 go_wp2_with fail
 go_ret2
 exact ⟨rfl,belA⟩
theorem Near_some (s t:ByteArray) (k:Nat) (q:Rat) (h:rd ⟨s,t⟩=some q) (k1:1≤k) (k2:(k:Int)≤1000000000000) (w:World) (ht:Bld.Pow w) (he:whole.Er w) :
  Calls Tryz.prog 139 #[.agg #[.string s,.string t],.int .i64 (k:Int)] w (fun e w'=>e= .returned (if in64 (band.nearZ (q.num*(k:Int)) q.den) then .tuple #[.int .i64 (band.nearZ (q.num*(k:Int)) q.den),.int .i64 0] else .tuple #[.int .i64 0,.int .i64 6])∧Below w.heap.size w w'):=by
 have HR:=zh (read_of h)
 have KP:=okq_sz (of_rd h).2
 have HK1:Hid (sz 1000000000 k≤1000000):=zh (by have:=sz_le_of_lt (B:=1000000000) zo 2 k zo;omega)
 have HKN:Hid (sz 1000000000 q.num.natAbs≤1000000):=zh (Nat.le_trans KP.1 zo)
 have HKD:Hid (sz 1000000000 q.den≤1000000):=zh (Nat.le_trans KP.2 zo)
 have HZ:Hid (sz 1000000000 (band.nearZ (q.num*(k:Int)) q.den).natAbs≤1099511627776):=by
  refine zh ?_
  have h1:=sz_mono (B:=1000000000) zo (near_le (q.num*(k:Int)) q.den)
  have h2:=sz_add (B:=1000000000) zo (2*(q.num*(k:Int)).natAbs) q.den
  have h3:=sz_mul (B:=1000000000) zo 2 (q.num*(k:Int)).natAbs
  have h4:=sz_mul (B:=1000000000) zo q.num.natAbs k
  have h5:=sz_le_of_lt (B:=1000000000) zo 1 2 zo
  rw [← Int.natAbs_natCast k,← Int.natAbs_mul,Int.natAbs_natCast k] at h4
  have:=HK1.out
  have:=HKN.out
  have:=HKD.out
  omega
 have HT:=zh ht
 have HE:=zh he
 have g1:decide ((k:Int)<1)=false:=decide_eq_false zo
 have g2:decide ((1000000000000:Int)<(k:Int))=false:=decide_eq_false zo
 have g3:IntKind.u64.wrap (k:Int)=(k:Int):=by
  simp [IntKind.wrap,IntKind.bits,IntKind.signed]
  omega
 obtain ⟨z,Ez⟩:∃ y:Int,Hid (band.nearZ (q.num*(k:Int)) q.den=y):=⟨_,zh rfl⟩
 rw [Ez.out] at HZ ⊢
 obtain ⟨R,ER⟩:∃ y:Value,Hid ((if in64 z then .tuple #[.int .i64 z,.int .i64 0] else .tuple #[.int .i64 0,.int .i64 6]:Value)=y):=⟨_,zh rfl⟩
 rw [ER.out]
 have HK2:Hid (k≤18446744073709551615):=zh zo
 clear ht he h KP k1 k2
 go_enter Tryz.func139,Tryz.ntmps139
 go_wp2_with fail
 refine (HR.out _).mono ?_
 rintro e v1 ⟨v,rfl,hc1,hv⟩
 obtain ⟨paHq,lHq,caHq,pbHq,mHq,cbHq,rfl,Hq,Hqd⟩:=hv;replace Hq:=zh Hq;replace Hqd:=zh Hqd
 have BR:=Box.later (Box.new _ _ _) hc1;have cBR:=BR.cell;have fBR:=BR.free;have lBR:=BR.lt
 go_wp2_with fail
 refine wp_region_walk [(.read,0),(.pure,1),(.pure,2),(.ext,3),(.ext,4),(.ext,5),(.ext,6),(.pure,7),(.pure,8),(.pure,9),(.fin,10),(.fin,11)] zk zk zR zP ?_
 repeat (first|(refine walk_pure0 rfl rfl fun J h=>?_;go_simp;refine h _ ?_;clear h J)|(refine walk_load rfl rfl rfl rfl fun J h=>?_;go_simp;refine h _ ?_;clear h J;try go_simp))
 refine walk_ext rfl rfl (fun w3 hb3 J hJ=>?_);go_simp
 replace Hq:=zh (Mag.carry Hq.out magA hb3)
 replace Hqd:=zh (Mag.carry Hqd.out magA hb3)
 refine (fromSmall_ok k _ HK2.out).mono ?_
 rintro e v3 ⟨v,rfl,hc3,hv⟩
 obtain ⟨paHs,lHs,caHs,rfl⟩:=hv.slice;have Hs:=zh hv;clear hv
 replace Hq:=zh (Mag.later Hq.out hc3)
 replace Hqd:=zh (Mag.later Hqd.out hc3)
 refine hJ _ _ hc3 ?_
 clear hJ J
 refine walk_ext rfl rfl (fun w4 hb4 J hJ=>?_);go_simp
 refine ((near_ok _ _ q k _ (RatV.of magA magA) magA HKN.out HKD.out HK1.out).mono (by rw [Ez.out];exact fun _ _ h=>h)).mono ?_
 rintro e v4 ⟨v,rfl,hc4,hv⟩
 obtain ⟨paHn,lHn,caHn,rfl,Hn⟩:=hv;replace Hn:=zh Hn
 refine hJ _ _ hc4 ?_
 clear hJ J
 refine walk_ext rfl rfl (fun w5 hb5 J hJ=>?_);go_simp
 refine (text_ok _ z _ (IntV.of_neg magA) HZ.out (HT.out.later belA)).mono ?_
 rintro e v5 ⟨rfl,hc5⟩
 refine hJ _ _ hc5 ?_
 clear hJ J
 refine walk_ext rfl rfl (fun w6 hb6 J hJ=>?_);go_simp
 refine (Int_any z _ (HE.out.later belA)).mono ?_
 rintro e v6 ⟨⟨x,c,h1,h2,rfl⟩,hc6⟩
 refine hJ _ _ hc6 ?_
 clear hJ J
 repeat (first|(refine walk_pure0 rfl rfl fun J h=>?_;go_simp;refine h _ ?_;clear h J)|(refine walk_load rfl rfl rfl rfl fun J h=>?_;go_simp;refine h _ ?_;clear h J;try go_simp))
 refine walk_fin [_,_] rfl (fun w7 hb7=>?_)
 cases hz:in64 z with
 | true =>
  obtain rfl:=h1.2 hz
  obtain rfl:=h2 hz
  clear h1 h2
  have hR: .tuple #[.int .i64 x,.int .i64 0]=R:=by rw [← ER.out,hz];rfl
  go_wp2_with fail
  go_ret2
  exact ⟨congrArg Ending.returned hR,belA⟩
 | false =>
  have hc:decide (c=0)=false:=decide_eq_false fun e=>by rw [h1.1 e] at hz;cases hz
  have hn:¬ c=0:=of_decide_eq_false hc
  clear h1 h2
  have hR: .tuple #[.int .i64 0,.int .i64 6]=R:=by rw [← ER.out,hz];rfl
  go_wp2_with fail
  all_goals go_ret2
  all_goals exact ⟨congrArg Ending.returned hR,belA⟩
theorem Make_ok (n d:Int) (hl1:(Lib.decDigits n.natAbs).length≤600) (hl2:(Lib.decDigits d.natAbs).length≤600) (w:World) (ht:Bld.Pow w) :
  Calls Tryz.prog 192 #[.string ⟨(Lib.itoa n).toArray⟩,.string ⟨(Lib.itoa d).toArray⟩] w (fun e w'=>e= .returned (Fr.res (ofF n d))∧Below w.heap.size w w'):=by
 have HC:=zh (check_yes (s:=⟨(Lib.itoa n).toArray⟩) (whole_of_itoa hl1))
 have HD:=zh (check_yes (s:=⟨(Lib.itoa d).toArray⟩) (whole_of_itoa hl2))
 have HL1:=zh hl1
 have HL2:=zh hl2
 have S1:=okn_sz (okn_len.2 hl1)
 have S2:=okn_sz (okn_len.2 hl2)
 have HT:=zh ht
 clear ht hl1 hl2
 by_cases h0:d=0
 ·have e:Fr.res (ofF n d)= .tuple #[.agg #[.string ⟨#[]⟩,.string ⟨#[]⟩],.int .i64 7]:=by unfold ofF;rw [if_pos h0];rfl
  rw [e]
  have hz:decide (d.natAbs=0)=true:=by simp;omega
  have HZ:=zh hz
  clear e h0 hz S1 S2
  go_enter Tryz.func192,Tryz.ntmps192
  go_wp2_with fail
  refine (HC.out _).mono ?_
  rintro e v1 ⟨rfl,hc1⟩
  have BR:=Box.later (Box.new _ _ _) hc1;have cBR:=BR.cell;have fBR:=BR.free;have lBR:=BR.lt
  go_wp2_with fail
  refine (HD.out _).mono ?_
  rintro e v2 ⟨rfl,hc2⟩
  replace BR:=Box.later (BR) hc2;replace cBR:=BR.cell;replace fBR:=BR.free;replace lBR:=BR.lt
  go_wp2_with fail
  refine (number_ok n HL1.out _).mono ?_
  rintro e v3 ⟨v,rfl,hc3,hv⟩
  obtain ⟨paHN,lHN,caHN,rfl,HN⟩:=hv;replace HN:=zh HN
  replace BR:=Box.later (BR) hc3;replace cBR:=BR.cell;replace fBR:=BR.free;replace lBR:=BR.lt
  go_wp2_with fail
  refine (number_ok d HL2.out _).mono ?_
  rintro e v4 ⟨v,rfl,hc4,hv⟩
  obtain ⟨paHM,lHM,caHM,rfl,HM⟩:=hv;replace HM:=zh HM
  replace BR:=Box.later (BR) hc4;replace cBR:=BR.cell;replace fBR:=BR.free;replace lBR:=BR.lt
  go_wp2_with fail
  refine (zero_ok _ d.natAbs _ magA).mono ?_
  rintro e v5 ⟨rfl,rfl⟩
  rw [HZ.out]
  go_wp2_with fail
  refine ret_ct rfl rfl boxA Tryz.underlying59 rfl zk ?_
  exact ⟨rfl,belA⟩
 ·have e:ofF n d=wr (mkRat (sgd n.natAbs (!(decide (n<0) == decide (d<0)))) d.natAbs):=by unfold ofF;rw [if_neg h0,make_eq n d h0]
  rw [e]
  have hz:decide (d.natAbs=0)=false:=by simp;omega
  have HZ:=zh hz
  have hdp:0<d.natAbs:=by omega
  have HDP:=zh hdp
  obtain ⟨f,Ef⟩:∃ y:Bool,Hid (Bool.not (decide (n<0) == decide (d<0))=y):=⟨_,zh rfl⟩
  obtain ⟨s,Es⟩:∃ y:Int,Hid (sgd n.natAbs f=y):=⟨_,zh rfl⟩
  rw [Ef.out,Es.out]
  have hs:sz 1000000000 s.natAbs≤67:=by rw [← Es.out,sgd_natAbs];exact S1
  have KS:=zh (Nat.le_trans hs (show 67≤549755813888 by omega))
  have KD:=zh (Nat.le_trans S2 (show 67≤549755813888 by omega))
  have KQ:Hid (szq 1000000 (mkRat s d.natAbs)):=by
   have hp:=mk_parts s hdp
   refine zh ⟨?_,?_⟩
   ·rw [hp.1,sgd_natAbs]
    exact Nat.le_trans sz_div zo
   ·rw [hp.2]
    exact Nat.le_trans sz_div zo
  obtain ⟨q,Eq⟩:∃ y:Rat,Hid (mkRat s d.natAbs=y):=⟨_,zh rfl⟩
  rw [Eq.out] at KQ ⊢
  obtain ⟨x,Ex⟩:∃ y:FrI,Hid (wr q=y):=⟨_,zh rfl⟩
  rw [Ex.out]
  clear e
  obtain ⟨⟨s1,t1⟩,e⟩:=x
  rw [res_mk]
  clear h0 hz hdp hs S1 S2
  go_enter Tryz.func192,Tryz.ntmps192
  go_wp2_with fail
  refine (HC.out _).mono ?_
  rintro e v1 ⟨rfl,hc1⟩
  have BR:=Box.later (Box.new _ _ _) hc1;have cBR:=BR.cell;have fBR:=BR.free;have lBR:=BR.lt
  go_wp2_with fail
  refine (HD.out _).mono ?_
  rintro e v2 ⟨rfl,hc2⟩
  replace BR:=Box.later (BR) hc2;replace cBR:=BR.cell;replace fBR:=BR.free;replace lBR:=BR.lt
  go_wp2_with fail
  refine (number_ok n HL1.out _).mono ?_
  rintro e v3 ⟨v,rfl,hc3,hv⟩
  obtain ⟨paHN,lHN,caHN,rfl,HN⟩:=hv;replace HN:=zh HN
  replace BR:=Box.later (BR) hc3;replace cBR:=BR.cell;replace fBR:=BR.free;replace lBR:=BR.lt
  go_wp2_with fail
  refine (number_ok d HL2.out _).mono ?_
  rintro e v4 ⟨v,rfl,hc4,hv⟩
  obtain ⟨paHM,lHM,caHM,rfl,HM⟩:=hv;replace HM:=zh HM
  replace HN:=zh (Mag.later HN.out hc4)
  replace BR:=Box.later (BR) hc4;replace cBR:=BR.cell;replace fBR:=BR.free;replace lBR:=BR.lt
  go_wp2_with fail
  refine (zero_ok _ d.natAbs _ magA).mono ?_
  rintro e v5 ⟨rfl,rfl⟩
  rw [HZ.out]
  go_wp2_with fail
  refine wp_region_walk [(.pure,0),(.read,1),(.pure,2),(.read,3),(.pure,4),(.read,5),(.pure,6),(.pure,8),(.read,9),(.ext,7),(.ext,10),(.ext,11),(.pure,12),(.pure,13),(.fin,14),(.fin,15)] zk zk zR zP ?_
  repeat (first|(refine walk_pure0 rfl rfl fun J h=>?_;go_simp;refine h _ ?_;clear h J)|(refine walk_load rfl rfl rfl rfl fun J h=>?_;go_simp;refine h _ ?_;clear h J;try go_simp))
  refine walk_ext rfl rfl (fun w6 hb6 J hJ=>?_);go_simp
  replace HM:=zh (Mag.carry HM.out magA hb6)
  replace BR:Box _ (w.heap.size) _ _:=Box.later boxA hb6;(try simp only [List.setIfInBounds_toArray,List.set_cons_zero,List.set_cons_succ] at BR);replace cBR:=BR.cell;replace fBR:=BR.free;replace lBR:=BR.lt
  refine ((signed_ok _ n.natAbs _ _ magA).mono (by rw [show (Bool.not (decide (n<0) == decide (d<0)))=f from Ef.out,Es.out];exact fun _ _ h=>h)).mono ?_
  rintro e v6 ⟨v,rfl,hc6,hv⟩
  obtain ⟨paHs,lHs,caHs,rfl,Hs⟩:=hv;replace Hs:=zh Hs
  replace HM:=zh (Mag.later HM.out hc6)
  replace BR:=Box.later (BR) hc6;replace cBR:=BR.cell;replace fBR:=BR.free;replace lBR:=BR.lt
  refine hJ _ _ hc6 ?_
  clear hJ J
  refine walk_ext rfl rfl (fun w7 hb7 J hJ=>?_);go_simp
  replace HM:=zh (Mag.later HM.out hb7)
  replace Hs:=zh (Mag.later Hs.out hb7)
  replace BR:=Box.later (BR) hb7;replace cBR:=BR.cell;replace fBR:=BR.free;replace lBR:=BR.lt
  refine ((reduced_ok _ _ s d.natAbs _ (IntV.of_neg magA) magA HDP.out KS.out KD.out).mono (by rw [Eq.out];exact fun _ _ h=>h)).mono ?_
  rintro e v7 ⟨v,rfl,hc7,hv⟩
  obtain ⟨paHq,lHq,caHq,pbHq,mHq,cbHq,rfl,Hq,Hqd⟩:=hv;replace Hq:=zh Hq;replace Hqd:=zh Hqd
  replace HM:=zh (Mag.later HM.out hc7)
  replace Hs:=zh (Mag.later Hs.out hc7)
  replace BR:=Box.later (BR) hc7;replace cBR:=BR.cell;replace fBR:=BR.free;replace lBR:=BR.lt
  refine hJ _ _ hc7 ?_
  clear hJ J
  refine walk_ext rfl rfl (fun w8 hb8 J hJ=>?_);go_simp
  replace BR:=Box.later (BR) hb8;replace cBR:=BR.cell;replace fBR:=BR.free;replace lBR:=BR.lt
  refine ((write_ok _ q _ (RatV.of magA magA) KQ.out (HT.out.later belA)).mono (by rw [Ex.out,res_mk];exact fun _ _ h=>h)).mono ?_
  rintro e v8 ⟨rfl,hc8⟩
  replace BR:=Box.later (BR) hc8;replace cBR:=BR.cell;replace fBR:=BR.free;replace lBR:=BR.lt
  refine hJ _ _ hc8 ?_
  clear hJ J
  repeat (first|(refine walk_pure0 rfl rfl fun J h=>?_;go_simp;refine h _ ?_;clear h J)|(refine walk_load rfl rfl rfl rfl fun J h=>?_;go_simp;refine h _ ?_;clear h J;try go_simp))
  refine walk_fin [_,_] rfl (fun w9 hb9=>?_)
  replace BR:=Box.later (BR) hb9;replace cBR:=BR.cell;replace fBR:=BR.free;replace lBR:=BR.lt
  go_wp2_with fail
  refine ret_ct rfl rfl boxA Tryz.underlying59 rfl zk ?_
  exact ⟨rfl,belA⟩
theorem dec_int (z:Int) (h0: -9223372036854775808≤z) (h1:z≤9223372036854775807):(Lib.decDigits z.natAbs).length≤600 :=
 Nat.le_trans (dec_len_le 19 z.natAbs zo zo) zo
theorem Of_ok (n d:Int) (n0: -9223372036854775808≤n) (n1:n≤9223372036854775807) (d0: -9223372036854775808≤d) (d1:d≤9223372036854775807) (w:World) (ht:Bld.Pow w) :
  Calls Tryz.prog 140 #[.int .i64 n,.int .i64 d] w (fun e w'=>e= .returned (Fr.res (ofF n d))∧Below w.heap.size w w'):=by
 have H1:=zh (fun w ht=>whole.of_ok n n0 n1 w ht)
 have H2:=zh (fun w ht=>whole.of_ok d d0 d1 w ht)
 have H3:=zh (fun w ht=>Make_ok n d (dec_int n n0 n1) (dec_int d d0 d1) w ht)
 have HT:=zh ht
 clear ht n0 n1 d0 d1
 obtain ⟨x,Ex⟩:∃ y:FrI,Hid (ofF n d=y):=⟨_,zh rfl⟩
 rw [Ex.out]
 obtain ⟨⟨s1,t1⟩,e⟩:=x
 rw [res_mk]
 go_enter Tryz.func140,Tryz.ntmps140
 go_wp2_with fail
 refine ((H1.out _ (HT.out.later belA)).mono (fun _ _ h=>by unfold itxt at h;exact h)).mono ?_
 rintro e v1 ⟨rfl,hc1⟩
 have BR:=Box.later (Box.new _ _ _) hc1;have cBR:=BR.cell;have fBR:=BR.free;have lBR:=BR.lt
 go_wp2_with fail
 refine ((H2.out _ (HT.out.later belA)).mono (fun _ _ h=>by unfold itxt at h;exact h)).mono ?_
 rintro e v2 ⟨rfl,hc2⟩
 replace BR:=Box.later (BR) hc2;replace cBR:=BR.cell;replace fBR:=BR.free;replace lBR:=BR.lt
 go_wp2_with fail
 refine ((H3.out _ (HT.out.later belA)).mono (by rw [Ex.out,res_mk];exact fun _ _ h=>h)).mono ?_
 rintro e v3 ⟨rfl,hc3⟩
 replace BR:=Box.later (BR) hc3;replace cBR:=BR.cell;replace fBR:=BR.free;replace lBR:=BR.lt
 go_wp2_with fail
 refine ret_ct rfl rfl boxA Tryz.underlying59 rfl zk ?_
 exact ⟨rfl,belA⟩
end Go.Proofs.frac
namespace Go.Proofs.band
open Go Go.RowKit Go.SW Go.Num Go.Mem Go.Proofs Go.Dec Go.Fra
theorem near_of (z:Int) {E:Nat} (hE:0<E) (hz:z.natAbs<9223372036854775809) (hE2:E<9223372036854775809) :
  ∃ s t,Fr.res (ofF z (E:Int))= .tuple #[.agg #[.string s,.string t],.int .i64 0]∧rd ⟨s,t⟩=some ((z:Rat) / ((E:Nat):Rat)):=by
 have hk:okq ((z:Rat) / ((E:Nat):Rat))=true:=by
  rw [← Rat.mkRat_eq_div]
  have hp:=mk_parts z hE
  have ht:9223372036854775809≤tenTo 600:=by unfold tenTo;decide+kernel
  unfold okq okn
  rw [Bool.and_eq_true]
  refine ⟨decide_eq_true ?_,decide_eq_true ?_⟩
  ·rw [hp.1,sgd_natAbs]
   have:=Nat.div_le_self z.natAbs (z.natAbs.gcd E)
   omega
  ·rw [hp.2]
   have:=Nat.div_le_self E (z.natAbs.gcd E)
   omega
 refine ⟨(Fr.of ((z:Rat) / ((E:Nat):Rat))).n,(Fr.of ((z:Rat) / ((E:Nat):Rat))).d,?_,rd_of hk⟩
 unfold ofF wr
 rw [if_neg zo,Rat.intCast_natCast,if_pos hk]
 rfl
theorem min0 (o:Int):∃ m:Int,(m=if o<0 then o else 0)∧(∀ (ts:Array TypeId) (t:TypeId) (W:World),(Builtin.min_ ts t #[.int .i64 o,.int .i64 0]).run Tryz.prog W= .ok (.int .i64 m) W):=by
 by_cases h:o<0
 ·refine ⟨o,by rw [if_pos h],fun ts t W=>?_⟩
  have h1:¬ (0:Int)<o:=by omega
  rw [run_min_int2];simp [h1]
 ·refine ⟨0,by rw [if_neg h],fun ts t W=>?_⟩
  rw [run_min_int2]
  by_cases h1:(0:Int)<o
  ·simp [h1]
  ·obtain rfl:o=0:=by omega
   simp
theorem max0 (o:Int):∃ m:Int,(m=if 0<o then o else 0)∧(∀ (ts:Array TypeId) (t:TypeId) (W:World),(Builtin.max_ ts t #[.int .i64 o,.int .i64 0]).run Tryz.prog W= .ok (.int .i64 m) W):=by
 by_cases h:0<o
 ·refine ⟨o,by rw [if_pos h],fun ts t W=>?_⟩
  have h1:¬ o<(0:Int):=by omega
  rw [run_max_int2];simp [h1]
 ·refine ⟨0,by rw [if_neg h],fun ts t W=>?_⟩
  rw [run_max_int2]
  by_cases h1:o<(0:Int)
  ·simp [h1]
  ·obtain rfl:o=0:=by omega
   simp
theorem around_bad (s t:ByteArray) (k:Int) (hk:¬ k=0) (w:World) (HN:Hid (∀ W,Below w.heap.size w W→Calls Tryz.prog 139 #[.agg #[.string s,.string t],.int .i64 1000000000000] W (fun e w'=>e= .returned (.tuple #[.int .i64 0,.int .i64 k])∧Below W.heap.size W w'))) :
  Calls Tryz.prog 86 #[.agg #[.string s,.string t]] w (fun e w'=>e= .returned (bndV ((0,0),k))∧Below w.heap.size w w'):=by
 unfold bndV
 have hk0:decide (k=0)=false:=decide_eq_false hk
 go_enter Tryz.func86,Tryz.ntmps86
 go_wp2_with fail
 refine (HN.out _ belA).mono ?_
 rintro e v1 ⟨rfl,hc1⟩
 have BR:=Box.later (Box.at1 _ _ _ _) hc1;have cBR:=BR.cell;have fBR:=BR.free;have lBR:=BR.lt
 go_wp2_with fail
 refine ret_ct rfl rfl boxA Tryz.underlying69 rfl zk ?_
 exact ⟨rfl,belA⟩
theorem around_good (s t s1 t1:ByteArray) (z o:Int) (w:World) (ho: -1≤o∧o≤1) (HN:Hid (∀ W,Below w.heap.size w W→Calls Tryz.prog 139 #[.agg #[.string s,.string t],.int .i64 1000000000000] W (fun e w'=>e= .returned (.tuple #[.int .i64 z,.int .i64 0])∧Below W.heap.size W w')))
  (HO:Hid (∀ W,Below w.heap.size w W→Calls Tryz.prog 140 #[.int .i64 z,.int .i64 1000000000000] W (fun e w'=>e= .returned (.tuple #[.agg #[.string s1,.string t1],.int .i64 0])∧Below W.heap.size W w')))
  (HC:Hid (∀ W,Calls Tryz.prog 100 #[.agg #[.string s,.string t],.agg #[.string s1,.string t1]] W (fun e w'=>e= .returned (.tuple #[.int .i64 o,.int .i64 0])∧Below W.heap.size W w'))) :
  Calls Tryz.prog 86 #[.agg #[.string s,.string t]] w (fun e w'=>e= .returned (bndV (if bok z z then madeE (z+(if o<0 then -1 else 0)) (z+(if 0<o then 1 else 0)) else ((0,0),6)))∧Below w.heap.size w w'):=by
 have HV:=zh (fun W=>valid_ok z z W)
 cases hb:bok z z with
 | false =>
  rw [if_neg zi]
  unfold bndV
  rw [hb] at HV
  clear hb ho
  go_enter Tryz.func86,Tryz.ntmps86
  go_wp2_with fail
  refine (HN.out _ belA).mono ?_
  rintro e v1 ⟨rfl,hc1⟩
  have BR:=Box.later (Box.at1 _ _ _ _) hc1;have cBR:=BR.cell;have fBR:=BR.free;have lBR:=BR.lt
  have B0:=Box.later (Box.alloc (Box.new _ _ _) _) hc1;have cB0:=B0.cell;have fB0:=B0.free;have lB0:=B0.lt
  go_wp2_with fail
  refine (HO.out _ belA).mono ?_
  rintro e v2 ⟨rfl,hc2⟩
  replace BR:=Box.later (BR) hc2;replace cBR:=BR.cell;replace fBR:=BR.free;replace lBR:=BR.lt
  replace B0:=Box.later (B0) hc2;replace cB0:=B0.cell;replace fB0:=B0.free;replace lB0:=B0.lt
  go_wp2_with fail
  refine (HC.out _).mono ?_
  rintro e v3 ⟨rfl,hc3⟩
  replace BR:Box _ (w.heap.size+1) _ _:=Box.later boxA hc3;(try simp only [List.setIfInBounds_toArray,List.set_cons_zero,List.set_cons_succ] at BR);replace cBR:=BR.cell;replace fBR:=BR.free;replace lBR:=BR.lt
  go_wp2_with fail
  refine (HV.out _).mono ?_
  rintro e v4 ⟨rfl,hc4⟩
  replace BR:=Box.later (BR) hc4;replace cBR:=BR.cell;replace fBR:=BR.free;replace lBR:=BR.lt
  go_wp2_with fail
  refine ret_ct rfl rfl boxA Tryz.underlying69 rfl zk ?_
  exact ⟨rfl,belA⟩
 | true =>
  rw [if_pos rfl]
  rw [hb] at HV
  obtain ⟨l,hl,hmin⟩:=min0 o
  obtain ⟨m,hm,hmax⟩:=max0 o
  have el:(if o<0 then (-1:Int) else 0)=l:=by rw [hl];by_cases h:o<0<;>simp only [if_pos,if_neg,h,if_true,if_false]<;>omega
  have em:(if 0<o then (1:Int) else 0)=m:=by rw [hm];by_cases h:0<o<;>simp only [if_pos,if_neg,h,if_true,if_false]<;>omega
  rw [el,em]
  have hr: -1000000000000000000≤z∧z≤1000000000000000000:=by
   unfold bok at hb
   simp only [Bool.and_eq_true,decide_eq_true_eq] at hb
   omega
  have hl2: -1≤l∧l≤0:=by rw [← el];by_cases h:o<0<;>simp [h]
  have hm2:0≤m∧m≤1:=by rw [← em];by_cases h:0<o<;>simp [h]
  have w1:IntKind.i64.wrap (z+l)=z+l:=by simp [IntKind.wrap,IntKind.bits,IntKind.signed];omega
  have w2:IntKind.i64.wrap (z+m)=z+m:=by simp [IntKind.wrap,IntKind.bits,IntKind.signed];omega
  have HM:=zh (fun W=>made_ok (z+l) (z+m) W)
  clear hb ho hl hm el em hr hl2 hm2
  generalize madeE (z+l) (z+m)=x at *
  obtain ⟨⟨x1,x2⟩,x3⟩:=x
  unfold bndV at *
  simp only at *
  go_enter Tryz.func86,Tryz.ntmps86
  go_wp2_with fail
  refine (HN.out _ belA).mono ?_
  rintro e v1 ⟨rfl,hc1⟩
  have BR:=Box.later (Box.at1 _ _ _ _) hc1;have cBR:=BR.cell;have fBR:=BR.free;have lBR:=BR.lt
  have B0:=Box.later (Box.alloc (Box.new _ _ _) _) hc1;have cB0:=B0.cell;have fB0:=B0.free;have lB0:=B0.lt
  go_wp2_with fail
  refine (HO.out _ belA).mono ?_
  rintro e v2 ⟨rfl,hc2⟩
  replace BR:=Box.later (BR) hc2;replace cBR:=BR.cell;replace fBR:=BR.free;replace lBR:=BR.lt
  replace B0:=Box.later (B0) hc2;replace cB0:=B0.cell;replace fB0:=B0.free;replace lB0:=B0.lt
  go_wp2_with fail
  refine (HC.out _).mono ?_
  rintro e v3 ⟨rfl,hc3⟩
  replace BR:Box _ (w.heap.size+1) _ _:=Box.later boxA hc3;(try simp only [List.setIfInBounds_toArray,List.set_cons_zero,List.set_cons_succ] at BR);replace cBR:=BR.cell;replace fBR:=BR.free;replace lBR:=BR.lt
  go_wp2_with fail
  refine (HV.out _).mono ?_
  rintro e v4 ⟨rfl,hc4⟩
  replace BR:=Box.later (BR) hc4;replace cBR:=BR.cell;replace fBR:=BR.free;replace lBR:=BR.lt
  go_wp2_with fail
  refine (HM.out _).mono ?_
  rintro e v5 ⟨rfl,hc5⟩
  replace BR:=Box.later (BR) hc5;replace cBR:=BR.cell;replace fBR:=BR.free;replace lBR:=BR.lt
  go_wp2_with fail
  refine ret_ct rfl rfl boxA Tryz.underlying69 rfl zk ?_
  exact ⟨rfl,belA⟩
def aroundE (a:Fr):(Int × Int) × Int:=match rd a with
 | some q=>madeE (rnd (q.num*1000000000000) q.den false) (rnd (q.num*1000000000000) q.den true)
 | none=>((0,0),20)
theorem Around_ok (a:Fr) (w:World) (ht:Bld.Pow w) (he:whole.Er w) :
  Calls Tryz.prog 86 #[a.v] w (fun e w'=>e= .returned (bndV (aroundE a))∧Below w.heap.size w w'):=by
 obtain ⟨s,t⟩:=a
 show Calls _ _ #[.agg #[.string s,.string t]] _ _
 unfold aroundE
 cases h:rd ⟨s,t⟩ with
 | none=>exact around_bad s t 20 zo w (zh fun W _=>frac.Near_none s t 1000000000000 h W)
 | some q =>
  have hd:0<q.den:=q.den_pos
  simp only
  rw [← arE_eq _ hd]
  have hn:∀ W,Below w.heap.size w W→ _:=fun W hW=>frac.Near_some s t 1000000000000 q h zo zo W (ht.later hW) (he.later hW)
  have e1:((1000000000000:Nat):Int)=1000000000000:=rfl
  rw [e1] at hn
  unfold arE
  unfold frac.in64 at hn
  generalize hz:nearZ (q.num*1000000000000) q.den=z at *
  by_cases c: -9223372036854775808≤z∧z<9223372036854775808
  ·rw [if_pos c]
   rw [decide_eq_true c,if_pos rfl] at hn
   obtain ⟨s1,t1,hof,hrd⟩:=near_of z (E:=1000000000000) zo zo zo
   rw [e1] at hof
   have hc:=fun W=>frac.Cmp_ok ⟨s,t⟩ ⟨s1,t1⟩ W
   have hce:cmpF ⟨s,t⟩ ⟨s1,t1⟩=(cmpq q ((z:Rat) / ((1000000000000:Nat):Rat)),0):=by unfold cmpF;rw [h,hrd]
   rw [hce,cmp_units q z zo,e1] at hc
   have hof2:∀ W,Below w.heap.size w W→ _:=fun W hW=>frac.Of_ok z 1000000000000 zo zo zo zo W (ht.later hW)
   rw [hof] at hof2
   refine (around_good s t s1 t1 z _ w ?_ (zh hn) (zh hof2) (zh hc)).mono ?_
   ·split
    ·omega
    ·split<;>omega
   ·rintro e w1 ⟨rfl,hb⟩
    refine ⟨?_,hb⟩
    congr 2
    by_cases h1:q.num*1000000000000<z*(q.den:Int)
    ·have h2:¬ z*(q.den:Int)<q.num*1000000000000:=by omega
     simp [h1,h2]
    ·by_cases h2:z*(q.den:Int)<q.num*1000000000000
     ·simp [h1,h2]
     ·simp [h1,h2]
  ·rw [if_neg c]
   rw [decide_eq_false c,if_neg zi] at hn
   exact around_bad s t 6 zo w (zh hn)
end Go.Proofs.band
