/- Lemmas for the proof. No condition. -/
import Derived.Test.YtneajphgfdlmhaaGreatDoorTB01
import Derived.Test.YtneajphgfdlmhaaGreatDoorTB07
import Derived.Test.YtneajphgfdlmhaaGreatDoorTB09
set_option linter.unusedVariables false
set_option linter.unusedSimpArgs false
set_option maxRecDepth 100000
set_option maxHeartbeats 16000000
namespace Go.Proofs.aO
open Go Go.RowKit Go.SW Go.Num Go.Mem Go.Proofs Go.Dec Go.eF
theorem nu (n d:Int) (h1: -9223372036854775808≤n) (h2:n≤9223372036854775807) (h3: -9223372036854775808≤d) (h4:d≤9223372036854775807) (w:World) :
  Calls Tryz.prog 40 #[.int .i64 n,.int .i64 d] w (fun e w'=>e= .returned (kN n d).1.v∧Below w.heap.size w w'):=by
 have H1:=zh (fun W=>aF.nu n d h1 h2 h3 h4 W);obtain ⟨⟨⟨s1,s2⟩,k⟩,E⟩:∃ y,kN n d=y:=⟨_,rfl⟩;rw [E] at H1 ⊢;replace H1:Hid (∀ W,Calls Tryz.prog 118 #[.int .i64 n,.int .i64 d] W (fun e w'=>e= .returned (.tuple #[.agg #[.string s1,.string s2],.int .i64 k])∧Below W.heap.size W w')):=H1;clear E h1 h2 h3 h4;go_enter Tryz.func40,Tryz.ntmps40
 go_wp2_with fail
 obtain ⟨dN,EW,hz,X1⟩:=rG w #[.string ⟨#[]⟩,.string ⟨#[]⟩] 32;rw [EW];have hk2:=Bt (Below.refl _ _) hz;clear EW hz;refine (H1.out _).mono ?_;rintro e ko ⟨rfl,hb3⟩;replace X1:=X1.bl hb3;have hk5:=Bt hk2 hb3;clear hk2;clear hb3;obtain ⟨gJ,gI,gN⟩:=X1.clf;have hres:=X1.out;have nE:=hres.cell;have nD:=hres.free;go_wp2_with fail
 refine bZ rfl rfl aJ Tryz.underlying32 rfl zk ?_;exact ⟨rfl,au⟩
theorem ai7 {k:Nat} (h:4≤k):2000<iC k:=by
 unfold iC;have:=Nat.pow_le_pow_right (n:=10) zo h;omega
theorem ah6 {q:Rat} (h1:q.num.natAbs≤2000) (h2:q.den≤2000):rz q=true:=by
 have ht:2000<iC 600:=ai7 zo;unfold rz jG;rw [Bool.and_eq_true];exact ⟨decide_eq_true zo,decide_eq_true zo⟩
theorem ah8 {n:Int} (h1:1≤n) (h2:n≤2000) (w:World):Calls Tryz.prog 40 #[.int .i64 n,.int .i64 1000] w (fun e w'=>e= .returned (Fr.of (aY.q2 n 1000)).v∧Below w.heap.size w w'):=by
 have h:=nu n 1000 zo zo zo zo w
 have e:(kN n 1000).1=Fr.of (aY.q2 n 1000):=by
  unfold kN wr aY.q2;rw [if_neg zo]
  have hk:rz ((n:Rat) / (1000:Int))=true:=by
   obtain ⟨l1,l2⟩:=aF.yU (n:=n) (d:=1000) zo;exact ah6 zo zo
  rw [if_pos hk]
 rw [e] at h;exact h
theorem Jr (a b c:Int) (ha:0≤a∧a≤65535) (hb:0≤b∧b≤65535) (hc:0≤c∧c≤65535) (w:World) :
  Calls Tryz.prog 12 #[.agg #[.int .u16 a,.int .u16 b,.int .u16 c]] w (fun e w'=>e= .returned (aY.tq (1+a%2000) (1+b%2000) (1+c%2000) 1000).v∧Below w.heap.size w w'):=by
 have H1:=zh (fun W=>ah8 (n:=1+a%2000) zo zo W);have H2:=zh (fun W=>ah8 (n:=1+b%2000) zo zo W);have H3:=zh (fun W=>ah8 (n:=1+c%2000) zo zo W);have W0:∀ z:Int,0≤z∧z≤65535→IntKind.i64.wrap z=z:=fun z h=>by unfold IntKind.wrap;simp [IntKind.bits];omega
 have wa:=W0 a ha;have wb:=W0 b hb;have wc:=W0 c hc;have wa1:=W0 (1+a%2000) zo;have wb1:=W0 (1+b%2000) zo;have wc1:=W0 (1+c%2000) zo;have ta:=Int.tmod_eq_emod_of_nonneg (b:=2000) ha.1;have tb:=Int.tmod_eq_emod_of_nonneg (b:=2000) hb.1;have tc:=Int.tmod_eq_emod_of_nonneg (b:=2000) hc.1;obtain ⟨⟨⟨s1,t1⟩,⟨s2,t2⟩,⟨s3,t3⟩⟩,E⟩:∃ y,aY.tq (1+a%2000) (1+b%2000) (1+c%2000) 1000=y:=⟨_,rfl⟩;rw [E];unfold aY.tq at E
 injection E with E1 E2 E3
 rw [E1] at H1;rw [E2] at H2;rw [E3] at H3;unfold Fr.v at H1 H2 H3;clear E1 E2 E3 ha hb hc W0;go_enter Tryz.func12,Tryz.ntmps12
 go_wp2_with fail
 obtain ⟨dN,EW,hz,X1,X2⟩:=yA w #[.int .u16 a,.int .u16 b,.int .u16 c] 24 #[.string ⟨#[]⟩,.string ⟨#[]⟩,.string ⟨#[]⟩,.string ⟨#[]⟩,.string ⟨#[]⟩,.string ⟨#[]⟩] 34;rw [EW];have hk2:=Bt (Below.refl _ _) hz;clear EW hz;obtain ⟨gJ,gI,gN⟩:=X1.clf;refine aC [(.pure,0),(.read,1),(.pure,2),(.pure,3),(.pure,4),(.pure,6),(.read,7),(.pure,8),(.pure,9),(.pure,10),(.pure,12),(.read,13),(.pure,14),(.pure,15),(.pure,16),(.ext,5),(.ext,11),(.ext,17),(.pure,18),(.fin,19)] zk zk zR zP ?_;refine zV ?_;refine aH rfl rfl (fun xR hb3 J hJ=>?_);go_simp;have hh3:Below dN.heap.size dN xR:=au;clear hb3;refine (H1.out _).mono ?_;rintro e uD ⟨rfl,hb4⟩;refine hJ _ _ hb4 ?_;clear hJ J;have oZ:=Bt hh3 hb4;clear hh3 hb4;refine zV ?_;refine aH rfl rfl (fun rM hb6 J hJ=>?_);go_simp;have iL:Below dN.heap.size dN rM:=Bt oZ au;clear hb6 oZ;refine (H2.out _).mono ?_
 rintro e jX ⟨rfl,fK⟩;refine hJ _ _ fK ?_;clear hJ J;have oW:=Bt iL fK;clear iL fK;refine zV ?_;refine aH rfl rfl (fun vI qW J hJ=>?_);go_simp;have iM:Below dN.heap.size dN vI:=Bt oW au;clear qW oW;refine (H3.out _).mono ?_;rintro e gV ⟨rfl,eX⟩;refine hJ _ _ eX ?_;clear hJ J;have jw:=Bt iM eX;clear iM eX;refine zV ?_;refine aQ [_] rfl (fun oM Cb=>?_);have hh12:Below dN.heap.size dN oM:=Bt jw au;clear Cb jw;clear gJ gI gN;replace X1:=X1.bl hh12;replace X2:=X2.bl hh12;have Vd:=Bt hk2 hh12;clear hk2;clear hh12;obtain ⟨iF,iE,iO⟩:=X2.clf;have hres:=X2.out;have nE:=hres.cell;have nD:=hres.free;go_wp2_with fail
 refine bZ rfl rfl aJ Tryz.underlying34 rfl zk ?_;exact ⟨rfl,au⟩
end Go.Proofs.aO
