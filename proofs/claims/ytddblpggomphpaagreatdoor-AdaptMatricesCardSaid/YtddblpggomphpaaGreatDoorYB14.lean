/- Lemmas for the proof. No condition. -/
import Derived.Test.YtddblpggomphpaaGreatDoorYB01
import Derived.Test.YtddblpggomphpaaGreatDoorYB02
import Derived.Test.YtddblpggomphpaaGreatDoorYB08
import Derived.Test.YtddblpggomphpaaGreatDoorYB09
import Derived.Test.YtddblpggomphpaaGreatDoorYB11
import Derived.Test.YtddblpggomphpaaGreatDoorYB12
import Derived.Test.YtddblpggomphpaaGreatDoorYB13
set_option linter.unusedVariables false
set_option linter.unusedSimpArgs false
set_option maxRecDepth 100000
set_option maxHeartbeats 16000000
namespace Go.Proofs.verdigrislaw25
open Go Go.RowKit Go.SW Go.Num Go.Mem Go.Proofs Go.Dec Go.dx
def q2 (n d:Int):Rat:=(n:Rat) / (d:Rat)
def sm (n d:Int):Bool:=decide (-1000000≤n)&&decide (n≤1000000)&&decide (1≤d)&&decide (d≤1000000)&&dz (q2 n d)
theorem AO (n d:Int) (h:sm n d=true) (w:World) (ht:pE.Pow w) :
  Calls Tryz.prog 22 #[.int .i64 n,.int .i64 d] w (fun e w'=>e= .returned (Fr.of (q2 n d)).v∧Below w.heap.size w w'):=by
 have h':=h
 unfold sm at h'
 simp only [Bool.and_eq_true,decide_eq_true_eq] at h'
 obtain ⟨⟨⟨⟨h1,h2⟩,h3⟩,h4⟩,h5⟩:=h'
 have HO:=fun w' hb=>dG.tO n d zo zo zo zo w' (ht.later hb)
 have e1:Fr.res (yR n d)= .tuple #[(Fr.of (q2 n d)).v,.int .i64 0]:=by
  unfold yR
  rw [if_neg zo]
  show Fr.res (dx.wr (q2 n d))=_
  unfold dx.wr
  rw [if_pos h5]
  rfl
 rw [e1] at HO
 have P6:=zh HO
 obtain ⟨⟨s,t⟩,E⟩:∃ y:Fr,Hid (Fr.of (q2 n d)=y):=⟨_,zh rfl⟩
 rw [E.out] at P6 ⊢
 unfold Fr.v at P6 ⊢
 have h0:Below w.heap.size w (w.alloc (.cells #[.string ⟨#[]⟩,.string ⟨#[]⟩] 36)):=aA
 have hx:=au.new w #[.string ⟨#[]⟩,.string ⟨#[]⟩] 36
 clear HO h h1 h2 h3 h4 h5 e1 ht E
 go_enter Tryz.func22,Tryz.ntmps22
 go_wp2_with fail
 refine (P6.out _ h0).mono ?_
 rintro e w1 ⟨rfl,hb1⟩
 have hr:=hx.later hb1
 have cr:=hr.cell
 have fr:=hr.free
 have lr:=hr.lt
 go_wp2_with fail
 refine bO rfl rfl aJ Tryz.underlying36 rfl zk ?_
 exact ⟨rfl,aA⟩
def tq (x y z d:Int):light.aW:=⟨Fr.of (q2 x d),Fr.of (q2 y d),Fr.of (q2 z d)⟩
theorem YI (x y z d:Int) (hx:sm x d=true) (hy:sm y d=true) (hz:sm z d=true) (w:World) (ht:pE.Pow w) :
  Calls Tryz.prog 26 #[.int .i64 x,.int .i64 y,.int .i64 z,.int .i64 d] w (fun e w'=>e= .returned (tq x y z d).v∧Below w.heap.size w w'):=by
 have H1:=zh (fun w' (hb:Below w.heap.size w w')=>AO x d hx w' (ht.later hb))
 have H2:=zh (fun w' (hb:Below w.heap.size w w')=>AO y d hy w' (ht.later hb))
 have H3:=zh (fun w' (hb:Below w.heap.size w w')=>AO z d hz w' (ht.later hb))
 unfold tq
 obtain ⟨⟨s1,s2⟩,E1⟩:∃ y:Fr,Hid (Fr.of (q2 x d)=y):=⟨_,zh rfl⟩
 obtain ⟨⟨s3,s4⟩,E2⟩:∃ u:Fr,Hid (Fr.of (q2 y d)=u):=⟨_,zh rfl⟩
 obtain ⟨⟨s5,s6⟩,E3⟩:∃ y:Fr,Hid (Fr.of (q2 z d)=y):=⟨_,zh rfl⟩
 rw [E1.out,E2.out,E3.out]
 rw [E1.out] at H1
 rw [E2.out] at H2
 rw [E3.out] at H3
 unfold Fr.v at H1 H2 H3
 unfold light.aW.v light.aW.cells
 have h0:Below w.heap.size w (w.alloc (.cells #[.string ⟨#[]⟩,.string ⟨#[]⟩,.string ⟨#[]⟩,.string ⟨#[]⟩,.string ⟨#[]⟩,.string ⟨#[]⟩] 38)):=aA
 have hb:=au.new w #[.string ⟨#[]⟩,.string ⟨#[]⟩,.string ⟨#[]⟩,.string ⟨#[]⟩,.string ⟨#[]⟩,.string ⟨#[]⟩] 38
 clear hx hy hz ht E1 E2 E3
 go_enter Tryz.func26,Tryz.ntmps26
 go_wp2_with fail
 refine (H1.out _ h0).mono ?_
 rintro e w1 ⟨rfl,hb1⟩
 have h1:=Bt h0 hb1
 go_wp2_with fail
 refine (H2.out _ h1).mono ?_
 rintro e w2 ⟨rfl,hb2⟩
 have h2:=Bt h1 hb2
 go_wp2_with fail
 refine (H3.out _ h2).mono ?_
 rintro e w3 ⟨rfl,hb3⟩
 have h3:=Bt h2 hb3
 have hr:=((hb.later hb1).later hb2).later hb3
 have cr:=hr.cell
 have fr:=hr.free
 have lr:=hr.lt
 clear h0 h1 h2 hb1 hb2 hb3 hb H1 H2 H3
 go_wp2_with fail
 refine bO rfl rfl ((((((hr.set 0 _).set 1 _).set 2 _).set 3 _).set 4 _).set 5 _) Tryz.underlying38 rfl zk ?_
 exact ⟨rfl,(((((h3.setCell (Nat.le_refl _) _).setCell (Nat.le_refl _) _).setCell (Nat.le_refl _) _).setCell (Nat.le_refl _) _).setCell (Nat.le_refl _) _).setCell (Nat.le_refl _) _⟩
end Go.Proofs.verdigrislaw25
namespace Go.Proofs.aL
open Go Go.RowKit Go.SW Go.Num Go.Mem Go.Proofs Go.Dec Go.dx
theorem tO (n d:Int) (h1: -9223372036854775808≤n) (h2:n≤9223372036854775807) (h3: -9223372036854775808≤d) (h4:d≤9223372036854775807) (w:World) :
  Calls Tryz.prog 18 #[.int .i64 n,.int .i64 d] w (fun e w'=>e= .returned (yR n d).1.v∧Below w.heap.size w w'):=by
 have H1:=zh (fun W=>aH.tO n d h1 h2 h3 h4 W)
 obtain ⟨⟨⟨s1,s2⟩,k⟩,E⟩:∃ y,yR n d=y:=⟨_,rfl⟩
 rw [E] at H1 ⊢
 replace H1:Hid (∀ W,Calls Tryz.prog 46 #[.int .i64 n,.int .i64 d] W (fun e w'=>e= .returned (.tuple #[.agg #[.string s1,.string s2],.int .i64 k])∧Below W.heap.size W w')):=H1
 clear E h1 h2 h3 h4
 go_enter Tryz.func18,Tryz.ntmps18
 go_wp2_with fail
 have hz:Below w.heap.size w (w.alloc (.cells #[.string ⟨#[]⟩,.string ⟨#[]⟩] 36)):=aA
 obtain ⟨aO,EW⟩:∃ y,(w.alloc (.cells #[.string ⟨#[]⟩,.string ⟨#[]⟩] 36))=y:=⟨_,rfl⟩
 have X1:Hid (au aO (w.heap.size) #[.string ⟨#[]⟩,.string ⟨#[]⟩] 36):=zh (by rw [← EW];exact au.new _ _ _)
 rw [EW] at hz ⊢
 have hk2:=Bt (Below.refl _ _) hz
 clear EW hz
 refine (H1.out _).mono ?_
 rintro e fM ⟨rfl,hb3⟩
 replace X1:=zh (X1.out.later hb3)
 have hk5:=Bt hk2 hb3
 clear hk2
 clear hb3
 have eP:=X1.out.cell;have eO:=X1.out.lt;have fU:=X1.out.free
 have hres:=X1.out
 have iU:=hres.cell
 have iT:=hres.free
 go_wp2_with fail
 refine bO rfl rfl aJ Tryz.underlying36 rfl zk ?_
 exact ⟨rfl,aA⟩
theorem RD {k:Nat} (h:4≤k):2000<gT k:=by
 unfold gT
 have:=Nat.pow_le_pow_right (n:=10) zo h
 omega
theorem Rj {q:Rat} (h1:q.num.natAbs≤2000) (h2:q.den≤2000):dz q=true:=by
 have ht:2000<gT 600:=RD zo
 unfold dz Kj
 rw [Bool.and_eq_true]
 exact ⟨decide_eq_true zo,decide_eq_true zo⟩
theorem Ro {n:Int} (h1:1≤n) (h2:n≤2000) (w:World):Calls Tryz.prog 18 #[.int .i64 n,.int .i64 1000] w (fun e w'=>e= .returned (Fr.of (verdigrislaw25.q2 n 1000)).v∧Below w.heap.size w w'):=by
 have h:=tO n 1000 zo zo zo zo w
 have e:(yR n 1000).1=Fr.of (verdigrislaw25.q2 n 1000):=by
  unfold yR wr verdigrislaw25.q2
  rw [if_neg zo]
  have hk:dz ((n:Rat) / (1000:Int))=true:=by
   obtain ⟨l1,l2⟩:=aH.FB (n:=n) (d:=1000) zo
   exact Rj zo zo
  rw [if_pos hk]
 rw [e] at h
 exact h
theorem Jw (a b c:Int) (ha:0≤a∧a≤65535) (hb:0≤b∧b≤65535) (hc:0≤c∧c≤65535) (w:World) :
  Calls Tryz.prog 10 #[.agg #[.int .u16 a,.int .u16 b,.int .u16 c]] w (fun e w'=>e= .returned (verdigrislaw25.tq (1+a%2000) (1+b%2000) (1+c%2000) 1000).v∧Below w.heap.size w w'):=by
 have H1:=zh (fun W=>Ro (n:=1+a%2000) zo zo W)
 have H2:=zh (fun W=>Ro (n:=1+b%2000) zo zo W)
 have H3:=zh (fun W=>Ro (n:=1+c%2000) zo zo W)
 have W0:∀ z:Int,0≤z∧z≤65535→IntKind.i64.wrap z=z:=fun z h=>by unfold IntKind.wrap;simp [IntKind.bits];omega
 have wa:=W0 a ha
 have wb:=W0 b hb
 have wc:=W0 c hc
 have wa1:=W0 (1+a%2000) zo
 have wb1:=W0 (1+b%2000) zo
 have wc1:=W0 (1+c%2000) zo
 have ta:=Int.tmod_eq_emod_of_nonneg (b:=2000) ha.1
 have tb:=Int.tmod_eq_emod_of_nonneg (b:=2000) hb.1
 have tc:=Int.tmod_eq_emod_of_nonneg (b:=2000) hc.1
 obtain ⟨⟨⟨s1,t1⟩,⟨s2,t2⟩,⟨s3,t3⟩⟩,E⟩:∃ y,verdigrislaw25.tq (1+a%2000) (1+b%2000) (1+c%2000) 1000=y:=⟨_,rfl⟩
 rw [E]
 unfold verdigrislaw25.tq at E
 injection E with E1 E2 E3
 rw [E1] at H1
 rw [E2] at H2
 rw [E3] at H3
 unfold Fr.v at H1 H2 H3
 clear E1 E2 E3 ha hb hc W0
 go_enter Tryz.func10,Tryz.ntmps10
 go_wp2_with fail
 have hz:Below w.heap.size w ((w.alloc (.cells #[.int .u16 a,.int .u16 b,.int .u16 c] 24)).alloc (.cells #[.string ⟨#[]⟩,.string ⟨#[]⟩,.string ⟨#[]⟩,.string ⟨#[]⟩,.string ⟨#[]⟩,.string ⟨#[]⟩] 38)):=aA
 obtain ⟨aO,EW⟩:∃ y,((w.alloc (.cells #[.int .u16 a,.int .u16 b,.int .u16 c] 24)).alloc (.cells #[.string ⟨#[]⟩,.string ⟨#[]⟩,.string ⟨#[]⟩,.string ⟨#[]⟩,.string ⟨#[]⟩,.string ⟨#[]⟩] 38))=y:=⟨_,rfl⟩
 have X1:Hid (au aO (w.heap.size) #[.int .u16 a,.int .u16 b,.int .u16 c] 24):=zh (by rw [← EW];exact au.alloc (au.new _ _ _) _)
 have X2:Hid (au aO (w.heap.size+1) #[.string ⟨#[]⟩,.string ⟨#[]⟩,.string ⟨#[]⟩,.string ⟨#[]⟩,.string ⟨#[]⟩,.string ⟨#[]⟩] 38):=zh (by rw [← EW];exact au.fZ _ _ _ _)
 rw [EW] at hz ⊢
 have hk2:=Bt (Below.refl _ _) hz
 clear EW hz
 have eP:=X1.out.cell;have eO:=X1.out.lt;have fU:=X1.out.free
 refine aC [(.pure,0),(.read,1),(.pure,2),(.pure,3),(.pure,4),(.pure,6),(.read,7),(.pure,8),(.pure,9),(.pure,10),(.pure,12),(.read,13),(.pure,14),(.pure,15),(.pure,16),(.ext,5),(.ext,11),(.ext,17),(.pure,18),(.fin,19)] zk zk zR zP ?_
 repeat (first|(refine ah rfl rfl fun J h=>?_;go_simp;refine h _ ?_;clear h J)|(refine aB rfl rfl rfl rfl fun J h=>?_;go_simp;refine h _ ?_;clear h J;try go_simp))
 refine aD rfl rfl (fun uZ hb3 J hJ=>?_);go_simp
 have hh3:Below aO.heap.size aO uZ:=aA
 clear hb3
 refine (H1.out _).mono ?_
 rintro e rP ⟨rfl,hb4⟩
 refine hJ _ _ hb4 ?_
 clear hJ J
 have ow:=Bt hh3 hb4
 clear hh3 hb4
 repeat (first|(refine ah rfl rfl fun J h=>?_;go_simp;refine h _ ?_;clear h J)|(refine aB rfl rfl rfl rfl fun J h=>?_;go_simp;refine h _ ?_;clear h J;try go_simp))
 refine aD rfl rfl (fun qL hb6 J hJ=>?_);go_simp
 have iD:Below aO.heap.size aO qL:=Bt ow aA
 clear hb6 ow
 refine (H2.out _).mono ?_
 rintro e ku ⟨rfl,dQ⟩
 refine hJ _ _ dQ ?_
 clear hJ J
 have oU:=Bt iD dQ
 clear iD dQ
 repeat (first|(refine ah rfl rfl fun J h=>?_;go_simp;refine h _ ?_;clear h J)|(refine aB rfl rfl rfl rfl fun J h=>?_;go_simp;refine h _ ?_;clear h J;try go_simp))
 refine aD rfl rfl (fun pW gX J hJ=>?_);go_simp
 have gH:Below aO.heap.size aO pW:=Bt oU aA
 clear gX oU
 refine (H3.out _).mono ?_
 rintro e dO ⟨rfl,dh⟩
 refine hJ _ _ dh ?_
 clear hJ J
 have fE:=Bt gH dh
 clear gH dh
 repeat (first|(refine ah rfl rfl fun J h=>?_;go_simp;refine h _ ?_;clear h J)|(refine aB rfl rfl rfl rfl fun J h=>?_;go_simp;refine h _ ?_;clear h J;try go_simp))
 refine aI [_] rfl (fun mV yh=>?_)
 have hh12:Below aO.heap.size aO mV:=Bt fE aA
 clear yh fE
 clear eP eO fU
 replace X1:=zh (X1.out.later hh12)
 replace X2:=zh (X2.out.later hh12)
 have KW:=Bt hk2 hh12
 clear hk2
 clear hh12
 have dY:=X2.out.cell;have dW:=X2.out.lt;have gN:=X2.out.free
 have hres:=X2.out
 have iU:=hres.cell
 have iT:=hres.free
 go_wp2_with fail
 refine bO rfl rfl aJ Tryz.underlying38 rfl zk ?_
 exact ⟨rfl,aA⟩
end Go.Proofs.aL
namespace Go.Proofs.aZ
open Go Go.RowKit Go.SW Go.Num Go.Mem Go.Proofs Go.Dec Go.dx Go.Proofs.aH Go.Proofs.aK
theorem Vr {z:Int} (h1: -1000000≤z) (h2:z≤1000000) (W:World):Calls Tryz.prog 18 #[.int .i64 z,.int .i64 100000] W (fun e w'=>e= .returned (Fr.of ((z:Rat) / ((100000:Int):Rat))).v∧Below W.heap.size W w'):=by
 have h:=aL.tO z 100000 zo zo zo zo W
 have e:(yR z 100000).1=Fr.of ((z:Rat) / ((100000:Int):Rat)):=by
  unfold yR
  rw [if_neg zo]
  unfold dx.wr
  have ht:(1000000:Nat)≤gT 10:=by decide
  have hq:adapt.Ht 10 ((z:Rat) / ((100000:Int):Rat)):=⟨z,100000,by omega,by omega,by omega,rfl⟩
  rw [if_pos (hq.ok zo)]
 rw [e] at h
 exact h
theorem pz (m:Nat) (hm:m<4) (w:World):Calls Tryz.prog 40 #[.int .i64 ((m:Int)+1)] w (aQ w 0 (adapt.aY m).fr):=by
 obtain ⟨i0,hi,hz0,hz1,hz2⟩:=info_parts pK
 obtain ⟨i1,hi',hy0,hy1,hy2⟩:=info_parts zN
 obtain ⟨C,HC⟩:∃ C:Nat→Nat→Int,Hid (C=fun i j=>adapt.lS.getD (m*9+i*3+j) 0):=⟨_,zh rfl⟩
 have OF:Hid (∀ i,i<3→∀ j,j<3→∀ W,Calls Tryz.prog 18 #[.int .i64 (C i j),.int .i64 100000] W (fun e w'=>e= .returned (Fr.of ((C i j:Rat) / ((100000:Int):Rat))).v∧Below W.heap.size W w')):=zh fun i hi j hj W=>by
  have:=adapt.xg (m*9+i*3+j) zo
  rw [HC.out]
  exact Vr this.1 this.2 W
 have hT:(adapt.aY m).fr=(List.range 3).map fun i=>(List.range 3).map fun j=>Fr.of ((C i j:Rat) / ((100000:Int):Rat)):=by
  rw [HC.out]
  simp [matrix.RM.fr,adapt.aY,adapt.kR]
 rw [hT]
 obtain ⟨G,HG0⟩:∃ G:Nat→Nat→Fr,Hid (G=fun i j=>Fr.of ((C i j:Rat) / ((100000:Int):Rat))):=⟨_,zh rfl⟩
 have OG:Hid (∀ i,i<3→∀ j,j<3→∀ W,Calls Tryz.prog 18 #[.int .i64 (C i j),.int .i64 100000] W (fun e w'=>e= .returned (G i j).v∧Below W.heap.size W w')):=by rw [HG0.out];exact OF
 rw [show (fun i=>(List.range 3).map fun j=>Fr.of ((C i j:Rat) / ((100000:Int):Rat)))=fun i=>(List.range 3).map (G i) by rw [HG0.out]]
 clear hT OF HG0
 rcases (by omega:m=0∨m=1∨m=2∨m=3) with rfl|rfl|rfl|rfl
 show Calls Tryz.prog 40 #[.int .i64 1] w _
 rotate_left
 show Calls Tryz.prog 40 #[.int .i64 2] w _
 rotate_left
 show Calls Tryz.prog 40 #[.int .i64 3] w _
 rotate_left
 show Calls Tryz.prog 40 #[.int .i64 4] w _
 rotate_left
 all_goals
  go_enter Tryz.func40,Tryz.ntmps40
  go_upto_region 12 with fail
 have X:=zh (au.new w #[.int .i64 100000,.int .i64 0,.int .i64 0,.int .i64 0,.int .i64 100000,.int .i64 0,.int .i64 0,.int .i64 0,.int .i64 100000] 116)
 have hB:Below w.heap.size w (w.alloc (.cells #[.int .i64 100000,.int .i64 0,.int .i64 0,.int .i64 0,.int .i64 100000,.int .i64 0,.int .i64 0,.int .i64 0,.int .i64 100000] 116)):=aA
 obtain ⟨W1,EW⟩:∃ y,w.alloc (.cells #[.int .i64 100000,.int .i64 0,.int .i64 0,.int .i64 0,.int .i64 100000,.int .i64 0,.int .i64 0,.int .i64 0,.int .i64 100000] 116)=y:=⟨_,rfl⟩
 rw [EW] at X hB ⊢
 have XC:Hid (∀ i,i<3→∀ j,j<3→W1.cell? ⟨w.heap.size,i*3+j,none⟩=some (.int .i64 (C i j))):=zh fun i hi j hj=>by
  rw [X.out.cell,HC.out]
  rcases (by omega:i=0∨i=1∨i=2) with rfl|rfl|rfl<;>rcases (by omega:j=0∨j=1∨j=2) with rfl|rfl|rfl<;>rfl
 have l1:=X.out.lt
 clear EW
 rotate_left
 have X:=zh (au.new w #[.int .i64 40024,.int .i64 70760,.int .i64 (-8081),.int .i64 (-22630),.int .i64 116532,.int .i64 4570,.int .i64 0,.int .i64 0,.int .i64 91822] 116)
 have hB:Below w.heap.size w (w.alloc (.cells #[.int .i64 40024,.int .i64 70760,.int .i64 (-8081),.int .i64 (-22630),.int .i64 116532,.int .i64 4570,.int .i64 0,.int .i64 0,.int .i64 91822] 116)):=aA
 obtain ⟨W1,EW⟩:∃ y,w.alloc (.cells #[.int .i64 40024,.int .i64 70760,.int .i64 (-8081),.int .i64 (-22630),.int .i64 116532,.int .i64 4570,.int .i64 0,.int .i64 0,.int .i64 91822] 116)=y:=⟨_,rfl⟩
 rw [EW] at X hB ⊢
 have XC:Hid (∀ i,i<3→∀ j,j<3→W1.cell? ⟨w.heap.size,i*3+j,none⟩=some (.int .i64 (C i j))):=zh fun i hi j hj=>by
  rw [X.out.cell,HC.out]
  rcases (by omega:i=0∨i=1∨i=2) with rfl|rfl|rfl<;>rcases (by omega:j=0∨j=1∨j=2) with rfl|rfl|rfl<;>rfl
 have l1:=X.out.lt
 clear EW
 rotate_left
 have X:=zh (au.new w #[.int .i64 89510,.int .i64 26640,.int .i64 (-16140),.int .i64 (-75020),.int .i64 171350,.int .i64 3670,.int .i64 3890,.int .i64 (-6850),.int .i64 102960] 116)
 have hB:Below w.heap.size w (w.alloc (.cells #[.int .i64 89510,.int .i64 26640,.int .i64 (-16140),.int .i64 (-75020),.int .i64 171350,.int .i64 3670,.int .i64 3890,.int .i64 (-6850),.int .i64 102960] 116)):=aA
 obtain ⟨W1,EW⟩:∃ y,w.alloc (.cells #[.int .i64 89510,.int .i64 26640,.int .i64 (-16140),.int .i64 (-75020),.int .i64 171350,.int .i64 3670,.int .i64 3890,.int .i64 (-6850),.int .i64 102960] 116)=y:=⟨_,rfl⟩
 rw [EW] at X hB ⊢
 have XC:Hid (∀ i,i<3→∀ j,j<3→W1.cell? ⟨w.heap.size,i*3+j,none⟩=some (.int .i64 (C i j))):=zh fun i hi j hj=>by
  rw [X.out.cell,HC.out]
  rcases (by omega:i=0∨i=1∨i=2) with rfl|rfl|rfl<;>rcases (by omega:j=0∨j=1∨j=2) with rfl|rfl|rfl<;>rfl
 have l1:=X.out.lt
 clear EW
 rotate_left
 have X:=zh (au.new w #[.int .i64 89500,.int .i64 26640,.int .i64 (-16140),.int .i64 (-75020),.int .i64 171350,.int .i64 3670,.int .i64 3890,.int .i64 (-6850),.int .i64 102960] 116)
 have hB:Below w.heap.size w (w.alloc (.cells #[.int .i64 89500,.int .i64 26640,.int .i64 (-16140),.int .i64 (-75020),.int .i64 171350,.int .i64 3670,.int .i64 3890,.int .i64 (-6850),.int .i64 102960] 116)):=aA
 obtain ⟨W1,EW⟩:∃ y,w.alloc (.cells #[.int .i64 89500,.int .i64 26640,.int .i64 (-16140),.int .i64 (-75020),.int .i64 171350,.int .i64 3670,.int .i64 3890,.int .i64 (-6850),.int .i64 102960] 116)=y:=⟨_,rfl⟩
 rw [EW] at X hB ⊢
 have XC:Hid (∀ i,i<3→∀ j,j<3→W1.cell? ⟨w.heap.size,i*3+j,none⟩=some (.int .i64 (C i j))):=zh fun i hi j hj=>by
  rw [X.out.cell,HC.out]
  rcases (by omega:i=0∨i=1∨i=2) with rfl|rfl|rfl<;>rcases (by omega:j=0∨j=1∨j=2) with rfl|rfl|rfl<;>rfl
 have l1:=X.out.lt
 clear EW
 rotate_left
 all_goals
  clear HC
  have HB:=zh hB
  obtain ⟨p,ep⟩:∃ y,w.heap.size=y:=⟨_,rfl⟩
  rw [ep] at X XC l1 ⊢
  clear hB ep
  go_wp2_with fail
  go_loopw [5,6] (fun ov iv wr=>∃ k:Nat,iv= .int .i64 (k:Int)∧k≤3∧Hid (bK wr W1.heap.size 56 1 mP ov ((List.range k).map fun i=>(List.range 3).map (G i)))∧Below W1.heap.size W1 wr) (fun _ iv _=>3 - (intOf iv).toNat)
  case atStart=>exact ⟨0,rfl,by omega,zh (bK.nil _ _ _ _ _),Below.refl _ _⟩
  case round =>
   obtain ⟨k,rfl,hk,HG,hb⟩:=hrel
   rcases Nat.lt_or_ge k 3 with hlt|hge
   ·obtain ⟨wo,rfl⟩:∃ wo:World,wo=wr:=⟨_,rfl⟩
    obtain ⟨ov,cv,rfl⟩:=HG.out.at (n:=k) zi
    have Qb:=zh hb
    clear hb
    have q3:decide ((k:Int)<3)=true:=by simp;omega
    go_wp2_with fail
    go_loopw [7,8] (fun rv jv wr=>∃ j:Nat,jv= .int .i64 (j:Int)∧j≤3∧Hid (bK wr wo.heap.size 36 2 xC rv ((List.range j).map (G k)))∧Below wo.heap.size wo wr) (fun _ jv _=>3 - (intOf jv).toNat)
    case atStart=>exact ⟨0,rfl,by omega,zh (bK.nil _ _ _ _ _),Below.refl _ _⟩
    case round =>
     obtain ⟨j,rfl,hj,HR,hbi⟩:=hrel
     rcases Nat.lt_or_ge j 3 with hjlt|VX
     ·obtain ⟨rv,rc,rfl⟩:=HR.out.at (n:=j) zi
      have hbw:=Bt Qb.out hbi
      have d1:=(hbw.cell (p:=⟨p,k*3+j,none⟩) l1).trans (XC.out k hlt j hjlt)
      have l2:p<wr.heap.size:=Nat.lt_of_lt_of_le l1 hbw.size
      have OGk:=zh (OG.out k hlt j hjlt)
      have JD:=zh hbi
      clear hbi hbw
      obtain ⟨⟨s,t⟩,hg⟩:∃ y,G k j=y:=⟨_,rfl⟩
      rw [hg] at OGk
      have Yp:=zh hg
      unfold Fr.v at OGk
      clear hg
      generalize C k j=z at *
      go_wp2_with fail
      refine (OGk.out _).mono ?_
      rintro e w2 ⟨rfl,hb2⟩
      have z1:=zh (Bt JD.out hb2)
      replace HR:=zh (HR.out.later hb2 (xC.stay _))
      clear hb2 d1 l2
      go_wp2_with (at_builtin;refine bS (w0:=wo) rfl (.tmp 42) (.tmp 49) 56 rfl 36 i0 (.agg #[.string ⟨#[]⟩,.string ⟨#[]⟩]) 2 32 Tryz.underlying56 hi hz0 hz1 hz2 rfl zd xC _ ((List.range j).map (G k)) rfl (HR.out.later aA (xC.stay _)) (Bt z1.out aA) _ [.string s,.string t] ⟨s,t⟩ rfl (au.new _ _ _) rfl ?c1 rfl (xC.stay _) ?c2 zo ?_)
      case c1=>first|exact ⟨rfl,rfl⟩|(intro u hu;simp only [List.mem_cons,List.not_mem_nil,or_false] at hu;rcases hu with rfl|rfl<;>rfl)
      case c2=>first|omega|(simp;omega)
      intro v' w3 hg hb3 _
      have HG2:Hid (bK w3 wo.heap.size 36 2 xC v' ((List.range (j+1)).map (G k))):=zh (by rw [iw,Yp.out];exact hg)
      clear hg HR
      go_wp2_with fail
      go_roundw
      case rel=>exact ⟨j+1,by go_num,by omega,HG2,hb3⟩
      case measure=>exact zM
     ·obtain rfl:j=3:=by omega
      have zF:=zh HR.out.Gy.C8
      obtain ⟨rv,rc,rfl⟩:=HR.out.at (n:=3) zi
      have HB3:=zh (Bt Qb.out hbi)
      replace HG:=zh (HG.out.later hbi (mP.stay zi))
      clear hbi HR
      go_wp2_with (at_builtin;refine bS (w0:=W1) rfl (.tmp 51) (.tmp 53) 44 rfl 56 i1 (.slice none 0 0) 1 24 Tryz.underlying44 hi' hy0 hy1 hy2 rfl zd mP _ ((List.range k).map fun i=>(List.range 3).map (G i)) rfl (HG.out.later aA (mP.stay zi)) (Bt HB3.out aA) _ [.slice rv 3 rc] ((List.range 3).map (G k)) rfl (au.new _ _ _) rfl ?c1 ⟨_,rfl,zF.out.later aA⟩ (mP.stay zi) ?c2 zo ?_)
      case c1=>first|(intro u hu;simp only [List.mem_cons,List.not_mem_nil,or_false] at hu;rcases hu with rfl;rfl)|rfl
      case c2=>first|omega|(simp;omega)
      intro v' w3 hg hb3 _
      have HG2:Hid (bK w3 W1.heap.size 56 1 mP v' ((List.range (k+1)).map fun i=>(List.range 3).map (G i))):=zh (by rw [iw];exact hg)
      clear hg HG zF
      go_wp2_with fail
      go_roundw
      case rel=>exact ⟨k+1,by go_num,by omega,HG2,hb3⟩
      case measure=>exact zM
   ·obtain rfl:k=3:=by omega
    obtain ⟨ov,cv,rfl⟩:=HG.out.at (n:=3) zi
    have Yr:=zh (Bt HB.out hb)
    go_wp2_with fail
    go_ret2
    exact aQ.yes Yr.out HG.out.Gy.Cy
end Go.Proofs.aZ
namespace Go.Proofs.aL
open Go Go.RowKit Go.SW Go.Num Go.Mem Go.Proofs Go.Dec Go.dx Go.Proofs.aH
theorem QT {w:World} {b:Nat} {v:Value} {T:TypeId} (h:au w b #[v] T):w.setCell ⟨b,0,none⟩ v=w:=by
 have e:(w.setCell ⟨b,0,none⟩ v).heap=w.heap:=Array.ext_getElem? fun i=>by
  by_cases hi:i=b
  ·subst hi
   have h2:=au.set h 0 v
   unfold au at h h2
   rw [h2,h]
   rfl
  ·exact sQ _ _ hi
 have e2:w.setCell ⟨b,0,none⟩ v={ w with heap:=(w.setCell ⟨b,0,none⟩ v).heap }:=rfl
 rw [e2,e]
theorem Gt (b:Nat) (s t:ByteArray) (w:World) (hx:au w b #[.int .i64 0] 142) :
  Calls Tryz.prog 151 #[.pointer (some ⟨b,0,none⟩),.agg #[.string s,.string t],.int .i64 0] w (fun e w'=>e= .returned (.agg #[.string s,.string t])∧Below w.heap.size w w'):=by
 have hl:=hx.lt
 have hc:=hx.cell
 have hf:=hx.free
 have hs:∀ o1 o2,((w.alloc o1).alloc o2).setCell ⟨b,0,none⟩ (.int .i64 0)=(w.alloc o1).alloc o2:=fun o1 o2=>QT ((hx.alloc o1).alloc o2)
 have hr:=au.fZ w (.cells #[.string s,.string t] 36) #[.string ⟨#[]⟩,.string ⟨#[]⟩] 36
 have cr:=hr.cell
 have fr:=hr.free
 clear hx
 go_enter Tryz.func151,Tryz.ntmps151
 go_wp2_with fail
 refine bO rfl rfl aJ Tryz.underlying36 rfl zk ?_
 exact ⟨rfl,aA⟩
theorem Cg (b:Nat) (x y z:Fr) (w:World) (hx:au w b #[.int .i64 0] 142) (e:Jv x y=(z,0)) (hf:aH.Fits x) (hg:aH.Fits y) :
  Calls Tryz.prog 95 #[.pointer (some ⟨b,0,none⟩),x.v,y.v] w (fun e w'=>e= .returned z.v∧Below w.heap.size w w'):=by
 have H1:=zh (fun W=>aH.Cg x y W hf hg)
 rw [e] at H1
 obtain ⟨x1,x2⟩:=x
 obtain ⟨y1,y2⟩:=y
 obtain ⟨z1,z2⟩:=z
 have H2:=zh (fun W (h:au W b #[.int .i64 0] 142)=>Gt b z1 z2 W h)
 have B0:=zh hx
 replace H1:Hid (∀ W,Calls Tryz.prog 153 #[.agg #[.string x1,.string x2],.agg #[.string y1,.string y2]] W (fun e w'=>e= .returned (.tuple #[.agg #[.string z1,.string z2],.int .i64 0])∧Below W.heap.size W w')):=H1
 unfold Fr.v
 clear e hf hg hx
 go_enter Tryz.func95,Tryz.ntmps95
 go_wp2_with fail
 have hz:Below w.heap.size w (((w.alloc (.cells #[.string x1,.string x2] 36)).alloc (.cells #[.string y1,.string y2] 36)).alloc (.cells #[.string ⟨#[]⟩,.string ⟨#[]⟩] 36)):=aA
 obtain ⟨aO,EW⟩:∃ y,(((w.alloc (.cells #[.string x1,.string x2] 36)).alloc (.cells #[.string y1,.string y2] 36)).alloc (.cells #[.string ⟨#[]⟩,.string ⟨#[]⟩] 36))=y:=⟨_,rfl⟩
 have X1:Hid (au aO (w.heap.size) #[.string x1,.string x2] 36):=zh (by rw [← EW];exact au.alloc (au.alloc (au.new _ _ _) _) _)
 have X2:Hid (au aO (w.heap.size+1) #[.string y1,.string y2] 36):=zh (by rw [← EW];exact au.alloc (au.fZ _ _ _ _) _)
 have X3:Hid (au aO (w.heap.size+1+1) #[.string ⟨#[]⟩,.string ⟨#[]⟩] 36):=zh (by rw [← EW];exact au.at2 _ _ _ _ _)
 rw [EW] at hz ⊢
 replace B0:=zh (B0.out.later hz)
 have hk2:=Bt (Below.refl _ _) hz
 clear EW hz
 refine (H1.out _).mono ?_
 rintro e fM ⟨rfl,hb3⟩
 replace B0:=zh (B0.out.later hb3)
 replace X1:=zh (X1.out.later hb3)
 replace X2:=zh (X2.out.later hb3)
 replace X3:=zh (X3.out.later hb3)
 have hk5:=Bt hk2 hb3
 clear hk2
 clear hb3
 go_wp2_with fail
 have hz:Below fM.heap.size fM (fM.alloc (.cells #[.string z1,.string z2] 36)):=aA
 obtain ⟨UZ,EW⟩:∃ y,(fM.alloc (.cells #[.string z1,.string z2] 36))=y:=⟨_,rfl⟩
 have X4:Hid (au UZ (fM.heap.size) #[.string z1,.string z2] 36):=zh (by rw [← EW];exact au.new _ _ _)
 rw [EW] at hz ⊢
 replace B0:=zh (B0.out.later hz)
 clear X1
 clear X2
 replace X3:=zh (X3.out.later hz)
 have Cz:=Bt hk5 hz
 clear hk5
 clear EW hz
 generalize fM.heap.size=pq6 at *
 refine (H2.out _ B0.out).mono ?_
 rintro e UA ⟨rfl,kD⟩
 replace B0:=zh (B0.out.later kD)
 replace X3:=zh (X3.out.later kD)
 replace X4:=zh (X4.out.later kD)
 have hk10:=Bt Cz kD
 clear Cz
 clear kD
 have mo:=X3.out.cell;have mg:=X3.out.lt;have pX:=X3.out.free
 have hres:=X3.out
 have iU:=hres.cell
 have iT:=hres.free
 go_wp2_with fail
 refine bO rfl rfl aJ Tryz.underlying36 rfl zk ?_
 exact ⟨rfl,aA⟩
theorem BP (b:Nat) (x y z:Fr) (w:World) (hx:au w b #[.int .i64 0] 142) (e:EY x y=(z,0)) (hf:aH.Fits x) (hg:aH.Fits y) :
  Calls Tryz.prog 93 #[.pointer (some ⟨b,0,none⟩),x.v,y.v] w (fun e w'=>e= .returned z.v∧Below w.heap.size w w'):=by
 have H1:=zh (fun W=>aH.BP x y W hf hg)
 rw [e] at H1
 obtain ⟨x1,x2⟩:=x
 obtain ⟨y1,y2⟩:=y
 obtain ⟨z1,z2⟩:=z
 have H2:=zh (fun W (h:au W b #[.int .i64 0] 142)=>Gt b z1 z2 W h)
 have B0:=zh hx
 replace H1:Hid (∀ W,Calls Tryz.prog 150 #[.agg #[.string x1,.string x2],.agg #[.string y1,.string y2]] W (fun e w'=>e= .returned (.tuple #[.agg #[.string z1,.string z2],.int .i64 0])∧Below W.heap.size W w')):=H1
 unfold Fr.v
 clear e hf hg hx
 go_enter Tryz.func93,Tryz.ntmps93
 go_wp2_with fail
 have hz:Below w.heap.size w (((w.alloc (.cells #[.string x1,.string x2] 36)).alloc (.cells #[.string y1,.string y2] 36)).alloc (.cells #[.string ⟨#[]⟩,.string ⟨#[]⟩] 36)):=aA
 obtain ⟨aO,EW⟩:∃ y,(((w.alloc (.cells #[.string x1,.string x2] 36)).alloc (.cells #[.string y1,.string y2] 36)).alloc (.cells #[.string ⟨#[]⟩,.string ⟨#[]⟩] 36))=y:=⟨_,rfl⟩
 have X1:Hid (au aO (w.heap.size) #[.string x1,.string x2] 36):=zh (by rw [← EW];exact au.alloc (au.alloc (au.new _ _ _) _) _)
 have X2:Hid (au aO (w.heap.size+1) #[.string y1,.string y2] 36):=zh (by rw [← EW];exact au.alloc (au.fZ _ _ _ _) _)
 have X3:Hid (au aO (w.heap.size+1+1) #[.string ⟨#[]⟩,.string ⟨#[]⟩] 36):=zh (by rw [← EW];exact au.at2 _ _ _ _ _)
 rw [EW] at hz ⊢
 replace B0:=zh (B0.out.later hz)
 have hk2:=Bt (Below.refl _ _) hz
 clear EW hz
 refine (H1.out _).mono ?_
 rintro e fM ⟨rfl,hb3⟩
 replace B0:=zh (B0.out.later hb3)
 replace X1:=zh (X1.out.later hb3)
 replace X2:=zh (X2.out.later hb3)
 replace X3:=zh (X3.out.later hb3)
 have hk5:=Bt hk2 hb3
 clear hk2
 clear hb3
 go_wp2_with fail
 have hz:Below fM.heap.size fM (fM.alloc (.cells #[.string z1,.string z2] 36)):=aA
 obtain ⟨UZ,EW⟩:∃ y,(fM.alloc (.cells #[.string z1,.string z2] 36))=y:=⟨_,rfl⟩
 have X4:Hid (au UZ (fM.heap.size) #[.string z1,.string z2] 36):=zh (by rw [← EW];exact au.new _ _ _)
 rw [EW] at hz ⊢
 replace B0:=zh (B0.out.later hz)
 clear X1
 clear X2
 replace X3:=zh (X3.out.later hz)
 have Cz:=Bt hk5 hz
 clear hk5
 clear EW hz
 generalize fM.heap.size=pq6 at *
 refine (H2.out _ B0.out).mono ?_
 rintro e UA ⟨rfl,kD⟩
 replace B0:=zh (B0.out.later kD)
 replace X3:=zh (X3.out.later kD)
 replace X4:=zh (X4.out.later kD)
 have hk10:=Bt Cz kD
 clear Cz
 clear kD
 have mo:=X3.out.cell;have mg:=X3.out.lt;have pX:=X3.out.free
 have hres:=X3.out
 have iU:=hres.cell
 have iT:=hres.free
 go_wp2_with fail
 refine bO rfl rfl aJ Tryz.underlying36 rfl zk ?_
 exact ⟨rfl,aA⟩
theorem tQ (b:Nat) (x y z:Fr) (w:World) (hx:au w b #[.int .i64 0] 142) (e:Ik x y=(z,0)) (hf:aH.Fits x) (hg:aH.Fits y) :
  Calls Tryz.prog 96 #[.pointer (some ⟨b,0,none⟩),x.v,y.v] w (fun e w'=>e= .returned z.v∧Below w.heap.size w w'):=by
 have H1:=zh (fun W=>aH.tQ x y W hf hg)
 rw [e] at H1
 obtain ⟨x1,x2⟩:=x
 obtain ⟨y1,y2⟩:=y
 obtain ⟨z1,z2⟩:=z
 have H2:=zh (fun W (h:au W b #[.int .i64 0] 142)=>Gt b z1 z2 W h)
 have B0:=zh hx
 replace H1:Hid (∀ W,Calls Tryz.prog 154 #[.agg #[.string x1,.string x2],.agg #[.string y1,.string y2]] W (fun e w'=>e= .returned (.tuple #[.agg #[.string z1,.string z2],.int .i64 0])∧Below W.heap.size W w')):=H1
 unfold Fr.v
 clear e hf hg hx
 go_enter Tryz.func96,Tryz.ntmps96
 go_wp2_with fail
 have hz:Below w.heap.size w (((w.alloc (.cells #[.string x1,.string x2] 36)).alloc (.cells #[.string y1,.string y2] 36)).alloc (.cells #[.string ⟨#[]⟩,.string ⟨#[]⟩] 36)):=aA
 obtain ⟨aO,EW⟩:∃ y,(((w.alloc (.cells #[.string x1,.string x2] 36)).alloc (.cells #[.string y1,.string y2] 36)).alloc (.cells #[.string ⟨#[]⟩,.string ⟨#[]⟩] 36))=y:=⟨_,rfl⟩
 have X1:Hid (au aO (w.heap.size) #[.string x1,.string x2] 36):=zh (by rw [← EW];exact au.alloc (au.alloc (au.new _ _ _) _) _)
 have X2:Hid (au aO (w.heap.size+1) #[.string y1,.string y2] 36):=zh (by rw [← EW];exact au.alloc (au.fZ _ _ _ _) _)
 have X3:Hid (au aO (w.heap.size+1+1) #[.string ⟨#[]⟩,.string ⟨#[]⟩] 36):=zh (by rw [← EW];exact au.at2 _ _ _ _ _)
 rw [EW] at hz ⊢
 replace B0:=zh (B0.out.later hz)
 have hk2:=Bt (Below.refl _ _) hz
 clear EW hz
 refine (H1.out _).mono ?_
 rintro e fM ⟨rfl,hb3⟩
 replace B0:=zh (B0.out.later hb3)
 replace X1:=zh (X1.out.later hb3)
 replace X2:=zh (X2.out.later hb3)
 replace X3:=zh (X3.out.later hb3)
 have hk5:=Bt hk2 hb3
 clear hk2
 clear hb3
 go_wp2_with fail
 have hz:Below fM.heap.size fM (fM.alloc (.cells #[.string z1,.string z2] 36)):=aA
 obtain ⟨UZ,EW⟩:∃ y,(fM.alloc (.cells #[.string z1,.string z2] 36))=y:=⟨_,rfl⟩
 have X4:Hid (au UZ (fM.heap.size) #[.string z1,.string z2] 36):=zh (by rw [← EW];exact au.new _ _ _)
 rw [EW] at hz ⊢
 replace B0:=zh (B0.out.later hz)
 clear X1
 clear X2
 replace X3:=zh (X3.out.later hz)
 have Cz:=Bt hk5 hz
 clear hk5
 clear EW hz
 generalize fM.heap.size=pq6 at *
 refine (H2.out _ B0.out).mono ?_
 rintro e UA ⟨rfl,kD⟩
 replace B0:=zh (B0.out.later kD)
 replace X3:=zh (X3.out.later kD)
 replace X4:=zh (X4.out.later kD)
 have hk10:=Bt Cz kD
 clear Cz
 clear kD
 have mo:=X3.out.cell;have mg:=X3.out.lt;have pX:=X3.out.free
 have hres:=X3.out
 have iU:=hres.cell
 have iT:=hres.free
 go_wp2_with fail
 refine bO rfl rfl aJ Tryz.underlying36 rfl zk ?_
 exact ⟨rfl,aA⟩
theorem Cc (b:Nat) (x y z:Fr) (w:World) (hx:au w b #[.int .i64 0] 142) (e:zA x y=(z,0)) (hf:aH.Fits x) (hg:aH.Fits y) :
  Calls Tryz.prog 97 #[.pointer (some ⟨b,0,none⟩),x.v,y.v] w (fun e w'=>e= .returned z.v∧Below w.heap.size w w'):=by
 have H1:=zh (fun W=>aH.Cc x y W hf hg)
 rw [e] at H1
 obtain ⟨x1,x2⟩:=x
 obtain ⟨y1,y2⟩:=y
 obtain ⟨z1,z2⟩:=z
 have H2:=zh (fun W (h:au W b #[.int .i64 0] 142)=>Gt b z1 z2 W h)
 have B0:=zh hx
 replace H1:Hid (∀ W,Calls Tryz.prog 155 #[.agg #[.string x1,.string x2],.agg #[.string y1,.string y2]] W (fun e w'=>e= .returned (.tuple #[.agg #[.string z1,.string z2],.int .i64 0])∧Below W.heap.size W w')):=H1
 unfold Fr.v
 clear e hf hg hx
 go_enter Tryz.func97,Tryz.ntmps97
 go_wp2_with fail
 have hz:Below w.heap.size w (((w.alloc (.cells #[.string x1,.string x2] 36)).alloc (.cells #[.string y1,.string y2] 36)).alloc (.cells #[.string ⟨#[]⟩,.string ⟨#[]⟩] 36)):=aA
 obtain ⟨aO,EW⟩:∃ y,(((w.alloc (.cells #[.string x1,.string x2] 36)).alloc (.cells #[.string y1,.string y2] 36)).alloc (.cells #[.string ⟨#[]⟩,.string ⟨#[]⟩] 36))=y:=⟨_,rfl⟩
 have X1:Hid (au aO (w.heap.size) #[.string x1,.string x2] 36):=zh (by rw [← EW];exact au.alloc (au.alloc (au.new _ _ _) _) _)
 have X2:Hid (au aO (w.heap.size+1) #[.string y1,.string y2] 36):=zh (by rw [← EW];exact au.alloc (au.fZ _ _ _ _) _)
 have X3:Hid (au aO (w.heap.size+1+1) #[.string ⟨#[]⟩,.string ⟨#[]⟩] 36):=zh (by rw [← EW];exact au.at2 _ _ _ _ _)
 rw [EW] at hz ⊢
 replace B0:=zh (B0.out.later hz)
 have hk2:=Bt (Below.refl _ _) hz
 clear EW hz
 refine (H1.out _).mono ?_
 rintro e fM ⟨rfl,hb3⟩
 replace B0:=zh (B0.out.later hb3)
 replace X1:=zh (X1.out.later hb3)
 replace X2:=zh (X2.out.later hb3)
 replace X3:=zh (X3.out.later hb3)
 have hk5:=Bt hk2 hb3
 clear hk2
 clear hb3
 go_wp2_with fail
 have hz:Below fM.heap.size fM (fM.alloc (.cells #[.string z1,.string z2] 36)):=aA
 obtain ⟨UZ,EW⟩:∃ y,(fM.alloc (.cells #[.string z1,.string z2] 36))=y:=⟨_,rfl⟩
 have X4:Hid (au UZ (fM.heap.size) #[.string z1,.string z2] 36):=zh (by rw [← EW];exact au.new _ _ _)
 rw [EW] at hz ⊢
 replace B0:=zh (B0.out.later hz)
 clear X1
 clear X2
 replace X3:=zh (X3.out.later hz)
 have Cz:=Bt hk5 hz
 clear hk5
 clear EW hz
 generalize fM.heap.size=pq6 at *
 refine (H2.out _ B0.out).mono ?_
 rintro e UA ⟨rfl,kD⟩
 replace B0:=zh (B0.out.later kD)
 replace X3:=zh (X3.out.later kD)
 replace X4:=zh (X4.out.later kD)
 have hk10:=Bt Cz kD
 clear Cz
 clear kD
 have mo:=X3.out.cell;have mg:=X3.out.lt;have pX:=X3.out.free
 have hres:=X3.out
 have iU:=hres.cell
 have iT:=hres.free
 go_wp2_with fail
 refine bO rfl rfl aJ Tryz.underlying36 rfl zk ?_
 exact ⟨rfl,aA⟩
end Go.Proofs.aL
namespace Go.Proofs.aL
open Go Go.RowKit Go.SW Go.Num Go.Mem Go.Proofs Go.Dec Go.dx Go.Proofs.aH Go.Proofs.light
theorem jW (a:Fr) (w:World) (hf:Fits a):Calls Tryz.prog 94 #[a.v] w (fun e w'=>e= .returned (.int .i64 (fG a).1)∧Below w.heap.size w w'):=by
 have H1:=zh (fun W=>aH.jW a W hf)
 obtain ⟨⟨k,j⟩,E⟩:∃ y,fG a=y:=⟨_,rfl⟩
 rw [E] at H1 ⊢
 obtain ⟨s,t⟩:=a
 unfold Fr.v at *
 clear E hf
 go_enter Tryz.func94,Tryz.ntmps94
 go_wp2_with fail
 have hz:Below w.heap.size w (w.alloc (.cells #[.string s,.string t] 36)):=aA
 obtain ⟨aO,EW⟩:∃ y,(w.alloc (.cells #[.string s,.string t] 36))=y:=⟨_,rfl⟩
 have X1:Hid (au aO (w.heap.size) #[.string s,.string t] 36):=zh (by rw [← EW];exact au.new _ _ _)
 rw [EW] at hz ⊢
 have hk2:=Bt (Below.refl _ _) hz
 clear EW hz
 refine (H1.out _).mono ?_
 rintro e fM ⟨rfl,hb3⟩
 replace X1:=zh (X1.out.later hb3)
 have hk5:=Bt hk2 hb3
 clear hk2
 clear hb3
 go_wp2_with fail
 go_ret
 exact ⟨rfl,hk5⟩
theorem Uq (v:Value) (l:List Fr) (T:TypeId) (w:World) (h:jL w T v l) (hf:∀ x∈l,Fits x) :
  Calls Tryz.prog 115 #[v] w (fun e w'=>e= .returned (.int .i64 (dK l))∧Below w.heap.size w w'):=by
 obtain ⟨a,cap,rfl,hc1,hc2,hread⟩:=h.read
 have H:=zh hread
 have HF:=zh hf
 clear h hread hf
 go_enter Tryz.func115,Tryz.ntmps115
 go_wp2_with fail
 go_loopw [3] (fun iv wr=>∃ k:Nat,iv= .int .i64 (k:Int)∧k≤l.length∧Hid (∀ j (h:j<l.length),j<k→(rd l[j]).isSome=true)∧Below w.heap.size w wr) (fun iv _=>l.length - (intOf iv).toNat)
 case atStart=>exact ⟨0,rfl,by omega,zh (fun j _ h=>by omega),Below.refl _ _⟩
 case round =>
  obtain ⟨k,rfl,hk,HK,hb⟩:=hrel
  rcases Nat.lt_or_ge k l.length with hlt|hge
  ·obtain ⟨b,off,rfl,hbl,hx1,hx2⟩:=H.out k hlt
   have hc1:=(hb.cell (p:=⟨b,off+k*2,none⟩) hbl).trans hx1
   have hc2:=(hb.cell (p:=⟨b,off+k*2+1,none⟩) hbl).trans hx2
   clear hx1 hx2
   have hck:=fun W=>gW l[k] W (HF.out _ (List.getElem_mem hlt))
   generalize hlk:l[k]=lk at *
   obtain ⟨s,t⟩:=lk
   cases hv:(rd ⟨s,t⟩).isSome with
   | true =>
    rw [tJ hv] at hck
    have rO:Hid (∀ w,Calls Tryz.prog 92 #[.agg #[.string s,.string t]] w (fun e w'=>e= .returned (.int .i64 0)∧Below w.heap.size w w')):=zh hck
    have Xe:=zh hlk
    have HV:=zh hv
    clear hck hlk hv
    go_wp2_with fail
    refine (rO.out _).mono ?_
    rintro e v1 ⟨rfl,hc1⟩
    go_wp2_with fail
    go_roundw
    case rel =>
     refine ⟨k+1,by go_num,by omega,zh fun j hj hjk=>?_,Bt hb aA⟩
     rcases Nat.lt_or_ge j k with h|h
     ·exact HK.out j hj h
     ·obtain rfl:j=k:=by omega
      rw [Xe.out]
      exact HV.out
    case measure=>exact zM
   | false =>
    rw [Lm hv] at hck
    have rO:Hid (∀ w,Calls Tryz.prog 92 #[.agg #[.string s,.string t]] w (fun e w'=>e= .returned (.int .i64 20)∧Below w.heap.size w w')):=zh hck
    have hno:dK l=20:=by
     unfold dK
     rw [if_neg]
     intro h
     have:=List.all_eq_true.1 h l[k] (List.getElem_mem _)
     rw [hlk,hv] at this
     cases this
    have Qm:=zh hno
    clear hck hlk hv hno
    go_wp2_with fail
    refine (rO.out _).mono ?_
    rintro e v1 ⟨rfl,hc1⟩
    go_wp2_with fail
    go_ret
    exact ⟨by rw [Qm.out];rfl,Bt hb aA⟩
  ·have hyes:dK l=0:=by
    unfold dK
    rw [if_pos]
    rw [List.all_eq_true]
    intro x hx
    obtain ⟨j,hj,rfl⟩:=List.getElem_of_mem hx
    exact HK.out j hj zo
   have Di:=zh hyes
   clear hyes
   obtain rfl:k=l.length:=by omega
   go_wp2_with fail
   go_ret
   exact ⟨by rw [Di.out];rfl,hb⟩
def uX (t:aW):Prop:=∀ i,i<3→Fits (t.get i)
theorem uX.mem {t:aW} (h:uX t):∀ x∈t.list,Fits x:=fun x hx=>by
 simp only [aW.list,List.mem_cons,List.not_mem_nil,or_false] at hx
 rcases hx with rfl|rfl|rfl
 ·exact h 0 zo
 ·exact h 1 zo
 ·exact h 2 zo
theorem aW.at {w:World} {b:Nat} {t:aW} {T:TypeId} (h:au w b t.cells T) {k:Nat} (hk:k<3):w.cell? ⟨b,k*2,none⟩=some (.string (t.get k).n)∧w.cell? ⟨b,k*2+1,none⟩=some (.string (t.get k).d):=by
 have hc:k=0∨k=1∨k=2:=by omega
 rcases hc with rfl|rfl|rfl<;>exact ⟨h.cell _,h.cell _⟩
theorem Qg {t:aW} (h:∀ i,i<3→decide ((fun f:Fr=>0≤(fG f).1) (t.get i))=true):t.list.all (fun f=>decide (0≤(fG f).1))=true:=by
 have h0:=h 0 zo
 have h1:=h 1 zo
 have h2:=h 2 zo
 simp only [aW.list,List.all_cons,List.all_nil,Bool.and_true,Bool.and_eq_true]
 exact ⟨h0,h1,h2⟩
theorem Uw {t:aW} {i:Nat} (hi:i<3) (h:decide ((fun f:Fr=>0≤(fG f).1) (t.get i))=false):t.list.all (fun f=>decide (0≤(fG f).1))=false:=by
 have hc:i=0∨i=1∨i=2:=by omega
 simp only [aW.list,List.all_cons,List.all_nil,Bool.and_true]
 rcases hc with rfl|rfl|rfl
 ·have h:decide ((fun f:Fr=>0≤(fG f).1) t.x)=false:=h
  simp only at h
  rw [h];rfl
 ·have h:decide ((fun f:Fr=>0≤(fG f).1) t.y)=false:=h
  simp only at h
  rw [h];simp
 ·have h:decide ((fun f:Fr=>0≤(fG f).1) t.z)=false:=h
  simp only at h
  rw [h];simp
theorem PY {t:aW} (h:∀ i,i<3→decide ((fun f:Fr=>(fG f).1≠0) (t.get i))=true):t.list.all (fun f=>decide ((fG f).1≠0))=true:=by
 have h0:=h 0 zo
 have h1:=h 1 zo
 have h2:=h 2 zo
 simp only [aW.list,List.all_cons,List.all_nil,Bool.and_true,Bool.and_eq_true]
 exact ⟨h0,h1,h2⟩
theorem TQ {t:aW} {i:Nat} (hi:i<3) (h:decide ((fun f:Fr=>(fG f).1≠0) (t.get i))=false):t.list.all (fun f=>decide ((fG f).1≠0))=false:=by
 have hc:i=0∨i=1∨i=2:=by omega
 simp only [aW.list,List.all_cons,List.all_nil,Bool.and_true]
 rcases hc with rfl|rfl|rfl
 ·have h:decide ((fun f:Fr=>(fG f).1≠0) t.x)=false:=h
  simp only at h
  rw [h];rfl
 ·have h:decide ((fun f:Fr=>(fG f).1≠0) t.y)=false:=h
  simp only at h
  rw [h];simp
 ·have h:decide ((fun f:Fr=>(fG f).1≠0) t.z)=false:=h
  simp only at h
  rw [h];simp
theorem Nk {t:aW} (h:dK t.list≠0):jC t=20∧dK t.list=20:=by
 unfold jC
 rw [if_neg h]
 refine ⟨rfl,?_⟩
 unfold dK at *
 split at h
 ·exact absurd rfl h
 ·rename_i h2;rw [if_neg h2]
def JG (t:aW):Prop:=dK t.list=0
def JF (t:aW):Prop:=jC t=0
theorem Xl {t:aW} (h0:JG t) {G:Nat→Fr} (hG:∀ k,k<3→t.get k=G k):(∀ k,k<3→decide ((fun f:Fr=>0≤(fG f).1) (G k))=false→jC t=2)∧((∀ k,k<3→decide ((fun f:Fr=>0≤(fG f).1) (G k))=true)→jC t=0):=by
 unfold jC
 unfold JG at h0
 rw [if_pos h0]
 refine ⟨fun k hk h=>?_,fun h=>?_⟩
 ·rw [if_neg]
  rw [Uw hk (by rw [hG k hk];exact h)]
  simp
 ·rw [if_pos]
  exact Qg fun i hi=>by rw [hG i hi];exact h i hi
theorem WI {t:aW} (h0:JF t) {G:Nat→Fr} (hG:∀ k,k<3→t.get k=G k):(∀ k,k<3→decide ((fun f:Fr=>(fG f).1≠0) (G k))=false→gF t=2)∧((∀ k,k<3→decide ((fun f:Fr=>(fG f).1≠0) (G k))=true)→gF t=0):=by
 unfold gF
 unfold JF at h0
 rw [if_pos h0]
 refine ⟨fun k hk h=>?_,fun h=>?_⟩
 ·rw [if_neg]
  rw [TQ hk (by rw [hG k hk];exact h)]
  simp
 ·rw [if_pos]
  exact PY fun i hi=>by rw [hG i hi];exact h i hi
theorem gW (t:aW) (w:World) (hf:uX t):Calls Tryz.prog 54 #[t.v] w (fun e w'=>e= .returned (.int .i64 (jC t))∧Below w.heap.size w w'):=by
 have FR:=zh (fun W b (h:au W b t.cells 36)=>Uq _ _ _ W (aW.C8 h) hf.mem)
 by_cases hc:dK t.list=0
 rotate_left
 ·rw [(Nk hc).1]
  rw [(Nk hc).2] at FR
  obtain ⟨⟨x1,x2⟩,⟨x3,x4⟩,⟨x5,x6⟩⟩:=t
  unfold aW.cells at FR
  unfold aW.v aW.cells
  clear hc hf
  go_enter Tryz.func54,Tryz.ntmps54
  go_wp2_with fail
  refine (FR.out _ _ (au.fZ _ _ _ _)).mono ?_
  rintro e w1 ⟨rfl,hb⟩
  go_wp2_with fail
  go_ret
  exact ⟨rfl,Bt aA hb⟩
 rw [hc] at FR
 obtain ⟨G,eG⟩:∃ G,t.get=G:=⟨_,rfl⟩
 have hG:∀ k,k<3→t.get k=G k:=fun k _=>by rw [eG]
 obtain ⟨h2,h0⟩:=Xl hc hG
 have H2:=zh h2
 have H0:=zh h0
 have SG:Hid (∀ k,k<3→∀ W,Calls Tryz.prog 94 #[(G k).v] W (fun e w'=>e= .returned (.int .i64 (fG (G k)).1)∧Below W.heap.size W w')):=zh fun k hk W=>by rw [← hG k hk];exact jW _ W (hf k hk)
 have AT:Hid (∀ (W:World) b,au W b t.cells 38→∀ k,k<3→W.cell? ⟨b,k*2,none⟩=some (.string (G k).n)∧W.cell? ⟨b,k*2+1,none⟩=some (.string (G k).d)):=zh fun W b h k hk=>by rw [← hG k hk];exact aW.at h hk
 generalize jC t=z at *
 obtain ⟨⟨x1,x2⟩,⟨x3,x4⟩,⟨x5,x6⟩⟩:=t
 unfold aW.cells at FR AT
 unfold aW.v aW.cells
 clear hc hf hG eG h2 h0
 have X:=zh (au.new w #[.string x1,.string x2,.string x3,.string x4,.string x5,.string x6] 38)
 go_enter Tryz.func54,Tryz.ntmps54
 go_wp2_with fail
 refine (FR.out _ _ (au.fZ _ _ _ _)).mono ?_
 rintro e wl ⟨rfl,hb⟩
 have HB:=zh (Bt (w:=w) aA hb)
 replace X:=zh ((X.out.alloc _).later hb)
 generalize w.heap.size=p at X
 clear hb
 go_wp2_with fail
 go_loopw [4] (fun iv wr=>∃ k:Nat,iv= .int .i64 (k:Int)∧k≤3∧Hid (∀ j,j<k→decide ((fun f:Fr=>0≤(fG f).1) (G j))=true)∧Below wl.heap.size wl wr) (fun iv _=>3 - (intOf iv).toNat)
 case atStart=>exact ⟨0,rfl,by omega,zh (fun j h=>by omega),Below.refl _ _⟩
 case round =>
  obtain ⟨k,rfl,hk,HK,hb⟩:=hrel
  rcases Nat.lt_or_ge k 3 with hlt|hge
  ·obtain ⟨c1,c2⟩:=AT.out wr p (X.out.later hb) k hlt
   have l1:=(X.out.later hb).lt
   have hs:=SG.out k hlt
   have H2K:=zh (H2.out k hlt)
   generalize hgk:G k=g at *
   have Yo:=zh hgk
   obtain ⟨s,t⟩:=g
   generalize hsg:(fG ⟨s,t⟩).1=sg at *
   have D8:=zh hsg
   have S:Hid (∀ W,Calls Tryz.prog 94 #[.agg #[.string s,.string t]] W (fun e w'=>e= .returned (.int .i64 sg)∧Below W.heap.size W w')):=zh hs
   clear hs hsg hgk
   by_cases hn:sg<0
   ·have HN:=zh hn
    clear hn;have hn1:decide (sg<0)=true:=decide_eq_true HN.out
    go_wp2_with fail
    refine (S.out _).mono ?_
    rintro e v1 ⟨rfl,hc1⟩
    go_wp2_with fail
    go_ret
    exact ⟨by rw [H2K.out (by rw [decide_eq_false_iff_not];have:=HN.out;have:=D8.out;omega)];rfl,Bt HB.out (Bt hb aA)⟩
   ·have HN:=zh hn
    clear hn;have hn1:decide (sg<0)=false:=decide_eq_false HN.out
    go_wp2_with fail
    refine (S.out _).mono ?_
    rintro e v1 ⟨rfl,hc1⟩
    go_wp2_with fail
    go_roundw
    case rel =>
     refine ⟨k+1,by go_num,by omega,zh fun j hj=>?_,Bt hb aA⟩
     rcases Nat.lt_or_ge j k with h|h
     ·exact HK.out j h
     ·obtain rfl:j=k:=by omega
      rw [Yo.out,decide_eq_true_iff]
      have:=HN.out
      have:=D8.out
      omega
    case measure=>exact zM
  ·obtain rfl:k=3:=by omega
   have HZ:=zh (H0.out HK.out)
   go_wp2_with fail
   go_ret
   exact ⟨by rw [HZ.out];rfl,Bt HB.out hb⟩
theorem kS (t:aW) (w:World) (hf:uX t):Calls Tryz.prog 91 #[t.v] w (fun e w'=>e= .returned (.int .i64 (gF t))∧Below w.heap.size w w'):=by
 have CK:=zh (fun W=>gW t W hf)
 by_cases hc:jC t=0
 rotate_left
 ·rw [show gF t=jC t by unfold gF;rw [if_neg hc]]
  have hz:(jC t == 0)=false:=beq_eq_false_iff_ne.2 hc
  obtain ⟨⟨x1,x2⟩,⟨x3,x4⟩,⟨x5,x6⟩⟩:=t
  unfold aW.v aW.cells at *
  generalize jC ⟨⟨x1,x2⟩,⟨x3,x4⟩,⟨x5,x6⟩⟩=z at *
  have HC:=zh hc
  clear hc hf
  go_enter Tryz.func91,Tryz.ntmps91
  go_wp2_with fail
  refine (CK.out _).mono ?_
  rintro e w1 ⟨rfl,hb⟩
  go_wp2_with fail
  go_ret
  exact ⟨rfl,Bt aA hb⟩
 rw [hc] at CK
 obtain ⟨G,eG⟩:∃ G,t.get=G:=⟨_,rfl⟩
 have hG:∀ k,k<3→t.get k=G k:=fun k _=>by rw [eG]
 obtain ⟨h2,h0⟩:=WI hc hG
 have H2:=zh h2
 have H0:=zh h0
 have SG:Hid (∀ k,k<3→∀ W,Calls Tryz.prog 94 #[(G k).v] W (fun e w'=>e= .returned (.int .i64 (fG (G k)).1)∧Below W.heap.size W w')):=zh fun k hk W=>by rw [← hG k hk];exact jW _ W (hf k hk)
 have AT:Hid (∀ (W:World) b,au W b t.cells 38→∀ k,k<3→W.cell? ⟨b,k*2,none⟩=some (.string (G k).n)∧W.cell? ⟨b,k*2+1,none⟩=some (.string (G k).d)):=zh fun W b h k hk=>by rw [← hG k hk];exact aW.at h hk
 generalize gF t=z at *
 obtain ⟨⟨x1,x2⟩,⟨x3,x4⟩,⟨x5,x6⟩⟩:=t
 unfold aW.cells at AT
 unfold aW.v aW.cells at *
 clear hc hf hG eG h2 h0
 have X:=zh (au.new w #[.string x1,.string x2,.string x3,.string x4,.string x5,.string x6] 38)
 go_enter Tryz.func91,Tryz.ntmps91
 go_wp2_with fail
 refine (CK.out _).mono ?_
 rintro e wl ⟨rfl,hb⟩
 have HB:=zh (Bt (w:=w) aA hb)
 replace X:=zh (X.out.later hb)
 generalize w.heap.size=p at X
 clear hb CK
 go_wp2_with fail
 go_loopw [4] (fun iv wr=>∃ k:Nat,iv= .int .i64 (k:Int)∧k≤3∧Hid (∀ j,j<k→decide ((fun f:Fr=>(fG f).1≠0) (G j))=true)∧Below wl.heap.size wl wr) (fun iv _=>3 - (intOf iv).toNat)
 case atStart=>exact ⟨0,rfl,by omega,zh (fun j h=>by omega),Below.refl _ _⟩
 case round =>
  obtain ⟨k,rfl,hk,HK,hb⟩:=hrel
  rcases Nat.lt_or_ge k 3 with hlt|hge
  ·obtain ⟨c1,c2⟩:=AT.out wr p (X.out.later hb) k hlt
   have l1:=(X.out.later hb).lt
   have hs:=SG.out k hlt
   have H2K:=zh (H2.out k hlt)
   generalize hgk:G k=g at *
   have Yo:=zh hgk
   obtain ⟨s,t⟩:=g
   generalize hsg:(fG ⟨s,t⟩).1=sg at *
   have D8:=zh hsg
   have S:Hid (∀ W,Calls Tryz.prog 94 #[.agg #[.string s,.string t]] W (fun e w'=>e= .returned (.int .i64 sg)∧Below W.heap.size W w')):=zh hs
   clear hs hsg hgk
   by_cases hn:sg=0
   ·have HN:=zh hn
    clear hn;have hn1:(sg == 0)=true:=beq_iff_eq.2 HN.out
    go_wp2_with fail
    refine (S.out _).mono ?_
    rintro e v1 ⟨rfl,hc1⟩
    go_wp2_with fail
    go_ret
    exact ⟨by rw [H2K.out (by rw [decide_eq_false_iff_not];have:=HN.out;have:=D8.out;omega)];rfl,Bt HB.out (Bt hb aA)⟩
   ·have HN:=zh hn
    clear hn;have hn1:(sg == 0)=false:=beq_eq_false_iff_ne.2 HN.out
    go_wp2_with fail
    refine (S.out _).mono ?_
    rintro e v1 ⟨rfl,hc1⟩
    go_wp2_with fail
    go_roundw
    case rel =>
     refine ⟨k+1,by go_num,by omega,zh fun j hj=>?_,Bt hb aA⟩
     rcases Nat.lt_or_ge j k with h|h
     ·exact HK.out j h
     ·obtain rfl:j=k:=by omega
      rw [Yo.out,decide_eq_true_iff]
      have:=HN.out
      have:=D8.out
      omega
    case measure=>exact zM
  ·obtain rfl:k=3:=by omega
   have HZ:=zh (H0.out HK.out)
   go_wp2_with fail
   go_ret
   exact ⟨by rw [HZ.out];rfl,Bt HB.out hb⟩
end Go.Proofs.aL
namespace Go.Proofs.aZ
open Go Go.RowKit Go.SW Go.Num Go.Mem Go.Proofs Go.Dec Go.dx Go.Proofs.aH Go.Proofs.aK Go.Proofs.aL
theorem Y3 (W:World):Calls Tryz.prog 18 #[.int .i64 1,.int .i64 1] W (fun e w'=>e= .returned (Fr.of 1).v∧Below W.heap.size W w'):=by
 have h:=aL.tO 1 1 zo zo zo zo W
 rw [show (yR 1 1).1=Fr.of 1 by decide+kernel] at h
 exact h
def qH (w:World) (er:Int) (t:light.aW) (e:Ending) (w':World):Prop:=e= .returned (.tuple #[t.v,.int .i64 er])∧Below w.heap.size w w'
def noT:light.aW:=⟨⟨⟨#[]⟩,⟨#[]⟩⟩,⟨⟨#[]⟩,⟨#[]⟩⟩,⟨⟨#[]⟩,⟨#[]⟩⟩⟩
theorem jE {w:World} {v:Value} {m:List (List Fr)} (h:bQ w v m):∃ pa l ca,v= .slice pa l ca:=by
 obtain ⟨a,c,e, -⟩:=bQ.read h
 exact ⟨_,_,_,e⟩
theorem L8 (m:Nat) (hm:m<4) (a b:light.aW) (d:Fr) (w:World) (fa:uX a) (fb:uX b) (h1:light.gF a≠0) :
  Calls Tryz.prog 39 #[.int .i64 ((m:Int)+1),a.v,b.v,d.v] w (qH w (light.gF a) noT):=by
 have CO:=zh (fun W=>pz m hm W)
 have SA:=zh (fun W=>kS a W fa)
 have SB:=zh (fun W=>kS b W fb)
 generalize light.gF a=er at *
 obtain ⟨⟨a1,a2⟩,⟨a3,a4⟩,⟨a5,a6⟩⟩:=a
 obtain ⟨⟨b1,b2⟩,⟨b3,b4⟩,⟨b5,b6⟩⟩:=b
 obtain ⟨d1,d2⟩:=d
 unfold light.aW.v light.aW.cells at SA SB
 unfold light.aW.v light.aW.cells Fr.v
 generalize (adapt.aY m).fr=C at *
 have ne:(er != 0)=true:=bne_iff_ne.2 h1
 clear fa fb h1 hm
 generalize (m:Int)+1=k at *
 unfold qH noT light.aW.v light.aW.cells
 go_enter Tryz.func39,Tryz.ntmps39
 go_wp2_with fail
 have hz:Below w.heap.size w (((((w.alloc (.cells #[.string a1,.string a2,.string a3,.string a4,.string a5,.string a6] 38)).alloc (.cells #[.string b1,.string b2,.string b3,.string b4,.string b5,.string b6] 38)).alloc (.cells #[.string d1,.string d2] 36)).alloc (.cells #[.string ⟨#[]⟩,.string ⟨#[]⟩,.string ⟨#[]⟩,.string ⟨#[]⟩,.string ⟨#[]⟩,.string ⟨#[]⟩] 37)).alloc (.cells #[.string ⟨#[]⟩,.string ⟨#[]⟩,.string ⟨#[]⟩,.string ⟨#[]⟩,.string ⟨#[]⟩,.string ⟨#[]⟩] 37)):=aA
 obtain ⟨aO,EW⟩:∃ y,(((((w.alloc (.cells #[.string a1,.string a2,.string a3,.string a4,.string a5,.string a6] 38)).alloc (.cells #[.string b1,.string b2,.string b3,.string b4,.string b5,.string b6] 38)).alloc (.cells #[.string d1,.string d2] 36)).alloc (.cells #[.string ⟨#[]⟩,.string ⟨#[]⟩,.string ⟨#[]⟩,.string ⟨#[]⟩,.string ⟨#[]⟩,.string ⟨#[]⟩] 37)).alloc (.cells #[.string ⟨#[]⟩,.string ⟨#[]⟩,.string ⟨#[]⟩,.string ⟨#[]⟩,.string ⟨#[]⟩,.string ⟨#[]⟩] 37))=y:=⟨_,rfl⟩
 have X1:Hid (au aO (w.heap.size) #[.string a1,.string a2,.string a3,.string a4,.string a5,.string a6] 38):=zh (by rw [← EW];exact au.alloc (au.alloc (au.alloc (au.alloc (au.new _ _ _) _) _) _) _)
 have X4:Hid (au aO (w.heap.size+1+1+1) #[.string ⟨#[]⟩,.string ⟨#[]⟩,.string ⟨#[]⟩,.string ⟨#[]⟩,.string ⟨#[]⟩,.string ⟨#[]⟩] 37):=zh (by rw [← EW];exact au.alloc (au.at3 _ _ _ _ _ _) _)
 have X5:Hid (au aO (w.heap.size+1+1+1+1) #[.string ⟨#[]⟩,.string ⟨#[]⟩,.string ⟨#[]⟩,.string ⟨#[]⟩,.string ⟨#[]⟩,.string ⟨#[]⟩] 37):=zh (by rw [← EW];exact au.at4 _ _ _ _ _ _ _)
 rw [EW] at hz ⊢
 have hk2:=Bt (Below.refl _ _) hz
 clear EW hz
 refine (CO.out _).mono ?_
 rintro e fM ⟨hb3,v,rfl,hm, -⟩
 replace hm:=hm rfl
 obtain ⟨paM,lM,caM,rfl⟩:=jE hm
 replace X1:=zh (X1.out.later hb3)
 replace X4:=zh (X4.out.later hb3)
 replace X5:=zh (X5.out.later hb3)
 have hk5:=Bt hk2 hb3
 clear hk2
 clear hb3 hm
 have eP:=X1.out.cell;have eO:=X1.out.lt;have fU:=X1.out.free
 go_wp2_with fail
 clear eP eO fU
 refine (SA.out _).mono ?_
 rintro e iC ⟨rfl,hb6⟩
 replace X1:=zh (X1.out.later hb6)
 replace X4:=zh (X4.out.later hb6)
 replace X5:=zh (X5.out.later hb6)
 have oI:=Bt hk5 hb6
 clear hk5
 clear hb6
 have zS:=X5.out.cell;have zJ:=X5.out.lt;have XY:=X5.out.free
 have rX:=X4.out.cell;have rW:=X4.out.lt;have JJ:=X4.out.free
 have hres:=X4.out
 have iU:=hres.cell
 have iT:=hres.free
 have Vw:=hres.lt
 have hno:=X5.out
 have cno:=hno.cell
 have lno:=hno.lt
 go_wp2_with fail
 refine aP rfl rfl aJ Tryz.underlying37 rfl zk ?_
 exact ⟨rfl,aA⟩
theorem L6 (m:Nat) (hm:m<4) (a b:light.aW) (d:Fr) (w:World) (fa:uX a) (fb:uX b) (h1:light.gF a=0) (h2:light.gF b≠0) :
  Calls Tryz.prog 39 #[.int .i64 ((m:Int)+1),a.v,b.v,d.v] w (qH w (light.gF b) noT):=by
 have CO:=zh (fun W=>pz m hm W)
 have SA:=zh (fun W=>kS a W fa)
 have SB:=zh (fun W=>kS b W fb)
 rw [h1] at SA
 clear h1
 generalize light.gF b=er at *
 obtain ⟨⟨a1,a2⟩,⟨a3,a4⟩,⟨a5,a6⟩⟩:=a
 obtain ⟨⟨b1,b2⟩,⟨b3,b4⟩,⟨b5,b6⟩⟩:=b
 obtain ⟨d1,d2⟩:=d
 unfold light.aW.v light.aW.cells at SA SB
 unfold light.aW.v light.aW.cells Fr.v
 generalize (adapt.aY m).fr=C at *
 have ne:(er != 0)=true:=bne_iff_ne.2 h2
 clear fa fb h2 hm
 generalize (m:Int)+1=k at *
 unfold qH noT light.aW.v light.aW.cells
 go_enter Tryz.func39,Tryz.ntmps39
 go_wp2_with fail
 have hz:Below w.heap.size w (((((w.alloc (.cells #[.string a1,.string a2,.string a3,.string a4,.string a5,.string a6] 38)).alloc (.cells #[.string b1,.string b2,.string b3,.string b4,.string b5,.string b6] 38)).alloc (.cells #[.string d1,.string d2] 36)).alloc (.cells #[.string ⟨#[]⟩,.string ⟨#[]⟩,.string ⟨#[]⟩,.string ⟨#[]⟩,.string ⟨#[]⟩,.string ⟨#[]⟩] 37)).alloc (.cells #[.string ⟨#[]⟩,.string ⟨#[]⟩,.string ⟨#[]⟩,.string ⟨#[]⟩,.string ⟨#[]⟩,.string ⟨#[]⟩] 37)):=aA
 obtain ⟨aO,EW⟩:∃ y,(((((w.alloc (.cells #[.string a1,.string a2,.string a3,.string a4,.string a5,.string a6] 38)).alloc (.cells #[.string b1,.string b2,.string b3,.string b4,.string b5,.string b6] 38)).alloc (.cells #[.string d1,.string d2] 36)).alloc (.cells #[.string ⟨#[]⟩,.string ⟨#[]⟩,.string ⟨#[]⟩,.string ⟨#[]⟩,.string ⟨#[]⟩,.string ⟨#[]⟩] 37)).alloc (.cells #[.string ⟨#[]⟩,.string ⟨#[]⟩,.string ⟨#[]⟩,.string ⟨#[]⟩,.string ⟨#[]⟩,.string ⟨#[]⟩] 37))=y:=⟨_,rfl⟩
 have X1:Hid (au aO (w.heap.size) #[.string a1,.string a2,.string a3,.string a4,.string a5,.string a6] 38):=zh (by rw [← EW];exact au.alloc (au.alloc (au.alloc (au.alloc (au.new _ _ _) _) _) _) _)
 have X2:Hid (au aO (w.heap.size+1) #[.string b1,.string b2,.string b3,.string b4,.string b5,.string b6] 38):=zh (by rw [← EW];exact au.alloc (au.alloc (au.alloc (au.fZ _ _ _ _) _) _) _)
 have X4:Hid (au aO (w.heap.size+1+1+1) #[.string ⟨#[]⟩,.string ⟨#[]⟩,.string ⟨#[]⟩,.string ⟨#[]⟩,.string ⟨#[]⟩,.string ⟨#[]⟩] 37):=zh (by rw [← EW];exact au.alloc (au.at3 _ _ _ _ _ _) _)
 have X5:Hid (au aO (w.heap.size+1+1+1+1) #[.string ⟨#[]⟩,.string ⟨#[]⟩,.string ⟨#[]⟩,.string ⟨#[]⟩,.string ⟨#[]⟩,.string ⟨#[]⟩] 37):=zh (by rw [← EW];exact au.at4 _ _ _ _ _ _ _)
 rw [EW] at hz ⊢
 have hk2:=Bt (Below.refl _ _) hz
 clear EW hz
 refine (CO.out _).mono ?_
 rintro e fM ⟨hb3,v,rfl,hm, -⟩
 replace hm:=hm rfl
 obtain ⟨paM,lM,caM,rfl⟩:=jE hm
 replace X1:=zh (X1.out.later hb3)
 replace X2:=zh (X2.out.later hb3)
 replace X4:=zh (X4.out.later hb3)
 replace X5:=zh (X5.out.later hb3)
 have hk5:=Bt hk2 hb3
 clear hk2
 clear hb3 hm
 have eP:=X1.out.cell;have eO:=X1.out.lt;have fU:=X1.out.free
 go_wp2_with fail
 clear eP eO fU
 refine (SA.out _).mono ?_
 rintro e iC ⟨rfl,hb6⟩
 replace X1:=zh (X1.out.later hb6)
 replace X2:=zh (X2.out.later hb6)
 replace X4:=zh (X4.out.later hb6)
 replace X5:=zh (X5.out.later hb6)
 have oI:=Bt hk5 hb6
 clear hk5
 clear hb6
 have dY:=X2.out.cell;have dW:=X2.out.lt;have gN:=X2.out.free
 go_wp2_with fail
 clear dY dW gN
 refine (SB.out _).mono ?_
 rintro e wc9 ⟨rfl,gX⟩
 clear X1
 replace X2:=zh (X2.out.later gX)
 replace X4:=zh (X4.out.later gX)
 replace X5:=zh (X5.out.later gX)
 have CF:=Bt oI gX
 clear oI
 clear gX
 have zS:=X5.out.cell;have zJ:=X5.out.lt;have XY:=X5.out.free
 have rX:=X4.out.cell;have rW:=X4.out.lt;have JJ:=X4.out.free
 have hres:=X4.out
 have iU:=hres.cell
 have iT:=hres.free
 have Vw:=hres.lt
 have hno:=X5.out
 have cno:=hno.cell
 have lno:=hno.lt
 go_wp2_with fail
 refine aP rfl rfl aJ Tryz.underlying37 rfl zk ?_
 exact ⟨rfl,aA⟩
theorem sub_one {q:Rat} (hq:adapt.Ht 10 q):EY (Fr.of 1) (Fr.of q)=(Fr.of (1 - q),0):=by
 rw [adapt.Mk (adapt.Ht.one.ok zo) (hq.ok zo)]
 unfold dx.wr
 rw [if_pos ((adapt.Ht.one.sub hq).ok zo)]
theorem QM {q:Rat} (h:dz q=true) (h0:0≤q):∃ c,fG (Fr.of q)=(c,0)∧decide (c<0)=false:=by
 refine ⟨gV q 0,adapt.qR h,decide_eq_false (adapt.Ng h0)⟩
def YP (t:light.aW) (k:Nat) (f:Fr):light.aW:=if k=0 then ⟨f,t.y,t.z⟩ else if k=1 then ⟨t.x,f,t.z⟩ else ⟨t.x,t.y,f⟩
theorem J6 (t:light.aW) {k:Nat} (hk:k<3) (f:Fr):(t.cells.setIfInBounds (k*2) (.string f.n)).setIfInBounds (k*2+1) (.string f.d)=(YP t k f).cells:=by
 rcases (by omega:k=0∨k=1∨k=2) with rfl|rfl|rfl<;>rfl
theorem QZ {t:light.aW} {k j:Nat} {f:Fr} (hk:k<3) (hj:j≤k):(YP t k f).get j=if j=k then f else t.get j:=by
 rcases (by omega:k=0∨k=1∨k=2) with rfl|rfl|rfl<;>rcases (by omega:j=0∨j=1∨j=2) with rfl|rfl|rfl<;>first|rfl|omega
theorem LY (m:Nat) (hm:m<4) (s t:Nat→Rat) (q:Rat) (w:World) (fs:adapt.dM s=true) (ft:adapt.dM t=true) (ha:light.gF (adapt.bJ s)=0) (hb:light.gF (adapt.bJ t)=0) (q0:0≤q) (q1:q≤1) (hq:adapt.Ht 10 q)
  (P R:Nat→Rat) (hP:P=adapt.iJ (adapt.aY m) s) (hR:R=adapt.iJ (adapt.aY m) t) (ra:adapt.dM P=true) (rb:adapt.dM R=true) (hg:adapt.eY P=false→∀ i,i<3→adapt.gJ q (P i) (R i)=true) :
  Calls Tryz.prog 39 #[.int .i64 ((m:Int)+1),(adapt.bJ s).v,(adapt.bJ t).v,(Fr.of q).v] w (qH w (if adapt.eY P then 7 else 0) (if adapt.eY P then noT else adapt.bJ fun i=>adapt.jR q (P i) (R i))):=by
 have fits:∀ u:Nat→Rat,adapt.dM u=true→uX (adapt.bJ u)∧∀ x∈[u 0,u 1,u 2],dz x=true:=fun u h=>by
  unfold adapt.dM at h
  simp only [Bool.and_eq_true] at h
  refine ⟨fun i hi=>?_,fun x hx=>?_⟩
  ·rcases (by omega:i=0∨i=1∨i=2) with rfl|rfl|rfl
   ·exact fC h.1.1
   ·exact fC h.1.2
   ·exact fC h.2
  ·simp only [List.mem_cons,List.not_mem_nil,or_false] at hx
   rcases hx with rfl|rfl|rfl
   ·exact h.1.1
   ·exact h.1.2
   ·exact h.2
 have CO:=zh (fun W=>pz m hm W)
 have SA:=zh (fun W=>kS _ W (fits s fs).1)
 have SB:=zh (fun W=>kS _ W (fits t ft).1)
 rw [ha] at SA
 rw [hb] at SB
 have oq:=hq.ok (show 10<600 by omega)
 have o1:=(adapt.Ht.one.sub hq).ok (show 0+10+1<600 by omega)
 have CK:=zh (fun W=>aH.gW (Fr.of q) W (fC oq))
 rw [tJ (by rw [jc oq];rfl)] at CK
 have ON:=zh Y3
 have SU:=zh (fun b W hx=>aL.BP b (Fr.of 1) (Fr.of q) (Fr.of (1 - q)) W hx (sub_one hq) (fC (adapt.Ht.one.ok zo)) (fC oq))
 obtain ⟨c1,e1,g1⟩:=QM oq q0
 obtain ⟨c2,e2,g2⟩:=QM o1 (by grind)
 have S1:=zh (fun W=>aL.jW (Fr.of q) W (fC oq))
 have S2:=zh (fun W=>aL.jW (Fr.of (1 - q)) W (fC o1))
 rw [e1] at S1
 rw [e2] at S2
 have LP:∀ (u:Nat→Rat) (U:Nat→Rat),U=adapt.iJ (adapt.aY m) u→adapt.dM u=true→adapt.dM U=true→∀ v vl T W,bQ W v (adapt.aY m).fr→jL W T vl [Fr.of (u 0),Fr.of (u 1),Fr.of (u 2)]→Calls Tryz.prog 55 #[v,vl] W (fun e W'=>∃ vo,e= .returned (.tuple #[vo,.int .i64 0])∧Below W.heap.size W W'∧jL W' 36 vo [Fr.of (U 0),Fr.of (U 1),Fr.of (U 2)]):=fun u U hU hu hUo v vl T W h1 h2=>by
  refine (aK.Ux v vl (adapt.aY m) [u 0,u 1,u 2] T W h1 h2 (adapt.tH m hm) (fits u hu).2).mono ?_
  have e:((adapt.aY m).map fun r=>dH r [u 0,u 1,u 2])=[U 0,U 1,U 2]:=by rw [hU];rfl
  rw [e]
  unfold adapt.dM at hUo
  simp only [Bool.and_eq_true] at hUo
  rintro e W' (⟨-, vo,rfl,hb,hf⟩|⟨h, -⟩)
  ·exact ⟨vo,rfl,hb,hf⟩
  ·simp [hUo.1.1,hUo.1.2,hUo.2] at h
 have A1:=zh (LP s P hP fs ra)
 have A2:=zh (LP t R hR ft rb)
 have TG:Hid (adapt.eY P=false→∀ i,i<3→∀ (b:Nat) W,au W b #[.int .i64 0] 142→∃ x y:Fr,Calls Tryz.prog 97 #[.pointer (some ⟨b,0,none⟩),(Fr.of (R i)).v,(Fr.of (P i)).v] W (fun e w'=>e= .returned x.v∧Below W.heap.size W w') ∧
   (∀ W,au W b #[.int .i64 0] 142→Calls Tryz.prog 96 #[.pointer (some ⟨b,0,none⟩),(Fr.of q).v,x.v] W (fun e w'=>e= .returned y.v∧Below W.heap.size W w')) ∧
   (∀ W,au W b #[.int .i64 0] 142→Calls Tryz.prog 95 #[.pointer (some ⟨b,0,none⟩),y.v,(Fr.of (1 - q)).v] W (fun e w'=>e= .returned (Fr.of (adapt.jR q (P i) (R i))).v∧Below W.heap.size W w'))):=zh fun hz i hi b W hx=>by
  have h:=hg hz i hi
  unfold adapt.gJ at h
  simp only [Bool.and_eq_true] at h
  obtain ⟨⟨⟨k1,k2⟩,k3⟩,k4⟩:=h
  have op:dz (P i)=true:=by
   unfold adapt.dM at ra
   simp only [Bool.and_eq_true] at ra
   rcases (by omega:i=0∨i=1∨i=2) with rfl|rfl|rfl
   ·exact ra.1.1
   ·exact ra.1.2
   ·exact ra.2
  have or:dz (R i)=true:=by
   unfold adapt.dM at rb
   simp only [Bool.and_eq_true] at rb
   rcases (by omega:i=0∨i=1∨i=2) with rfl|rfl|rfl
   ·exact rb.1.1
   ·exact rb.1.2
   ·exact rb.2
  have wy:∀ x,dz x=true→dx.wr x=(Fr.of x,0):=fun x hx=>by unfold dx.wr;rw [if_pos hx]
  refine ⟨Fr.of (R i / P i),Fr.of (q*(R i / P i)),aL.Cc b _ _ _ W hx ?_ (fC or) (fC op),fun W hx=>aL.tQ b _ _ _ W hx ?_ (fC oq) (fC k1),fun W hx=>aL.Cg b _ _ _ W hx ?_ (fC k2) (fC o1)⟩
  ·rw [adapt.Nb or op (adapt.GN hz i hi),wy _ k1]
  ·rw [adapt.MQ oq k1,wy _ k2]
  ·rw [adapt.Nr k2 o1];exact wy _ k4
 have SP:Hid (∀ i,i<3→∀ W,Calls Tryz.prog 94 #[(Fr.of (P i)).v] W (fun e w'=>e= .returned (.int .i64 (gV (P i) 0))∧Below W.heap.size W w')):=zh fun i hi W=>by
  have op:dz (P i)=true:=by
   unfold adapt.dM at ra
   simp only [Bool.and_eq_true] at ra
   rcases (by omega:i=0∨i=1∨i=2) with rfl|rfl|rfl
   ·exact ra.1.1
   ·exact ra.1.2
   ·exact ra.2
  have:=aL.jW (Fr.of (P i)) W (fC op)
  rwa [adapt.qR op] at this
 have ZN:Hid (∀ i,i<3→P i=0→adapt.eY P=true):=zh fun i hi h=>by
  cases hz:adapt.eY P with
  | true=>rfl
  | false=>exact absurd h (adapt.GN hz i hi)
 have ZY:Hid ((∀ i,i<3→P i≠0)→adapt.eY P=false):=zh fun h=>by
  cases hz:adapt.eY P with
  | false=>rfl
  | true =>
   obtain ⟨i,hi,e⟩:=adapt.Ob hz
   exact absurd e (h i hi)
 obtain ⟨ez,EZ⟩:∃ y:Int,Hid ((if adapt.eY P then 7 else 0)=y):=⟨_,zh rfl⟩
 obtain ⟨tz,TZ⟩:∃ y:light.aW,Hid ((if adapt.eY P then noT else adapt.bJ fun i=>adapt.jR q (P i) (R i))=y):=⟨_,zh rfl⟩
 rw [EZ.out,TZ.out]
 generalize (adapt.aY m).fr=C at *
 clear LP fits ra rb hg ha hb fs ft hP hR hm q0 q1 hq e1 e2 oq o1
 obtain ⟨⟨⟨a1,a2⟩,⟨a3,a4⟩,⟨a5,a6⟩⟩,E⟩:∃ y:light.aW,adapt.bJ s=y:=⟨_,rfl⟩
 have es0:Fr.of (s 0)=⟨a1,a2⟩:=congrArg light.aW.x E
 have es1:Fr.of (s 1)=⟨a3,a4⟩:=congrArg light.aW.y E
 have es2:Fr.of (s 2)=⟨a5,a6⟩:=congrArg light.aW.z E
 rw [es0,es1,es2] at A1
 simp only [E] at SA ⊢
 clear E es0 es1 es2
 obtain ⟨⟨⟨b1,b2⟩,⟨b3,b4⟩,⟨b5,b6⟩⟩,E⟩:∃ y:light.aW,adapt.bJ t=y:=⟨_,rfl⟩
 have es0:Fr.of (t 0)=⟨b1,b2⟩:=congrArg light.aW.x E
 have es1:Fr.of (t 1)=⟨b3,b4⟩:=congrArg light.aW.y E
 have es2:Fr.of (t 2)=⟨b5,b6⟩:=congrArg light.aW.z E
 rw [es0,es1,es2] at A2
 simp only [E] at SB ⊢
 clear E es0 es1 es2
 obtain ⟨⟨d1,d2⟩,E⟩:∃ y:Fr,Fr.of q=y:=⟨_,rfl⟩
 simp only [E] at CK SU S1 TG ⊢
 clear E
 obtain ⟨⟨r1,r2⟩,E⟩:∃ y:Fr,Fr.of (1 - q)=y:=⟨_,rfl⟩
 simp only [E] at SU S2 TG
 clear E
 obtain ⟨⟨o1,o2⟩,E⟩:∃ y:Fr,Fr.of 1=y:=⟨_,rfl⟩
 simp only [E] at ON SU
 clear E
 generalize (m:Int)+1=k at *
 unfold light.aW.v light.aW.cells at SA SB
 unfold Fr.v at CK ON SU S1 S2 TG
 unfold light.aW.v light.aW.cells Fr.v
 go_enter Tryz.func39,Tryz.ntmps39
 go_wp2_with fail
 have hz:Below w.heap.size w (((((w.alloc (.cells #[.string a1,.string a2,.string a3,.string a4,.string a5,.string a6] 38)).alloc (.cells #[.string b1,.string b2,.string b3,.string b4,.string b5,.string b6] 38)).alloc (.cells #[.string d1,.string d2] 36)).alloc (.cells #[.string ⟨#[]⟩,.string ⟨#[]⟩,.string ⟨#[]⟩,.string ⟨#[]⟩,.string ⟨#[]⟩,.string ⟨#[]⟩] 37)).alloc (.cells #[.string ⟨#[]⟩,.string ⟨#[]⟩,.string ⟨#[]⟩,.string ⟨#[]⟩,.string ⟨#[]⟩,.string ⟨#[]⟩] 37)):=aA
 obtain ⟨aO,EW⟩:∃ y,(((((w.alloc (.cells #[.string a1,.string a2,.string a3,.string a4,.string a5,.string a6] 38)).alloc (.cells #[.string b1,.string b2,.string b3,.string b4,.string b5,.string b6] 38)).alloc (.cells #[.string d1,.string d2] 36)).alloc (.cells #[.string ⟨#[]⟩,.string ⟨#[]⟩,.string ⟨#[]⟩,.string ⟨#[]⟩,.string ⟨#[]⟩,.string ⟨#[]⟩] 37)).alloc (.cells #[.string ⟨#[]⟩,.string ⟨#[]⟩,.string ⟨#[]⟩,.string ⟨#[]⟩,.string ⟨#[]⟩,.string ⟨#[]⟩] 37))=y:=⟨_,rfl⟩
 have X1:Hid (au aO (w.heap.size) #[.string a1,.string a2,.string a3,.string a4,.string a5,.string a6] 38):=zh (by rw [← EW];exact au.alloc (au.alloc (au.alloc (au.alloc (au.new _ _ _) _) _) _) _)
 have X2:Hid (au aO (w.heap.size+1) #[.string b1,.string b2,.string b3,.string b4,.string b5,.string b6] 38):=zh (by rw [← EW];exact au.alloc (au.alloc (au.alloc (au.fZ _ _ _ _) _) _) _)
 have X3:Hid (au aO (w.heap.size+1+1) #[.string d1,.string d2] 36):=zh (by rw [← EW];exact au.alloc (au.alloc (au.at2 _ _ _ _ _) _) _)
 have X4:Hid (au aO (w.heap.size+1+1+1) #[.string ⟨#[]⟩,.string ⟨#[]⟩,.string ⟨#[]⟩,.string ⟨#[]⟩,.string ⟨#[]⟩,.string ⟨#[]⟩] 37):=zh (by rw [← EW];exact au.alloc (au.at3 _ _ _ _ _ _) _)
 have X5:Hid (au aO (w.heap.size+1+1+1+1) #[.string ⟨#[]⟩,.string ⟨#[]⟩,.string ⟨#[]⟩,.string ⟨#[]⟩,.string ⟨#[]⟩,.string ⟨#[]⟩] 37):=zh (by rw [← EW];exact au.at4 _ _ _ _ _ _ _)
 rw [EW] at hz ⊢
 have hk2:=Bt (Below.refl _ _) hz
 clear EW hz
 refine (CO.out _).mono ?_
 rintro e fM ⟨hb3,v,rfl,hm, -⟩
 replace hm:=hm rfl
 obtain ⟨paM,lM,caM,rfl⟩:=jE hm
 replace X1:=zh (X1.out.later hb3)
 replace X2:=zh (X2.out.later hb3)
 replace X3:=zh (X3.out.later hb3)
 replace X4:=zh (X4.out.later hb3)
 replace X5:=zh (X5.out.later hb3)
 have hk5:=Bt hk2 hb3
 clear hk2
 have NM:=zh hm
 clear hb3 hm
 have eP:=X1.out.cell;have eO:=X1.out.lt;have fU:=X1.out.free
 go_wp2_with fail
 clear eP eO fU
 refine (SA.out _).mono ?_
 rintro e iC ⟨rfl,hb6⟩
 replace X1:=zh (X1.out.later hb6)
 replace X2:=zh (X2.out.later hb6)
 replace X3:=zh (X3.out.later hb6)
 replace X4:=zh (X4.out.later hb6)
 replace X5:=zh (X5.out.later hb6)
 replace NM:=zh (NM.out.later hb6)
 have oI:=Bt hk5 hb6
 clear hk5
 clear hb6
 have dY:=X2.out.cell;have dW:=X2.out.lt;have gN:=X2.out.free
 go_wp2_with fail
 clear dY dW gN
 refine (SB.out _).mono ?_
 rintro e wc9 ⟨rfl,gX⟩
 replace X1:=zh (X1.out.later gX)
 replace X2:=zh (X2.out.later gX)
 replace X3:=zh (X3.out.later gX)
 replace X4:=zh (X4.out.later gX)
 replace X5:=zh (X5.out.later gX)
 replace NM:=zh (NM.out.later gX)
 have CF:=Bt oI gX
 clear oI
 clear gX
 have mo:=X3.out.cell;have mg:=X3.out.lt;have pX:=X3.out.free
 go_wp2_with fail
 clear mo mg pX
 refine (CK.out _).mono ?_
 rintro e vg ⟨rfl,iE⟩
 replace X1:=zh (X1.out.later iE)
 replace X2:=zh (X2.out.later iE)
 replace X3:=zh (X3.out.later iE)
 replace X4:=zh (X4.out.later iE)
 replace X5:=zh (X5.out.later iE)
 replace NM:=zh (NM.out.later iE)
 have KU:=Bt CF iE
 clear CF
 clear iE
 go_wp2_with fail
 have hz:Below vg.heap.size vg (vg.alloc (.cells #[.int .i64 0] 142)):=aA
 obtain ⟨uY,EW⟩:∃ y,(vg.alloc (.cells #[.int .i64 0] 142))=y:=⟨_,rfl⟩
 have X6:Hid (au uY (vg.heap.size) #[.int .i64 0] 142):=zh (by rw [← EW];exact au.new _ _ _)
 rw [EW] at hz ⊢
 replace X1:=zh (X1.out.later hz)
 replace X2:=zh (X2.out.later hz)
 replace X3:=zh (X3.out.later hz)
 replace X4:=zh (X4.out.later hz)
 replace X5:=zh (X5.out.later hz)
 replace NM:=zh (NM.out.later hz)
 have Pb:=Bt KU hz
 clear KU
 clear EW hz
 generalize vg.heap.size=aB7 at *
 have mo:=X3.out.cell;have mg:=X3.out.lt;have pX:=X3.out.free
 refine aC [(.read,1),(.ext,0),(.ext,2),(.alloc #[.string ⟨#[]⟩,.string ⟨#[]⟩] 36,3),(.fin,4)] zk zk zR zP ?_
 repeat (first|(refine ah rfl rfl fun J h=>?_;go_simp;refine h _ ?_;clear h J)|(refine aB rfl rfl rfl rfl fun J h=>?_;go_simp;refine h _ ?_;clear h J;try go_simp))
 refine aD rfl rfl (fun aA6 oK J hJ=>?_);go_simp
 have sP:Below uY.heap.size uY aA6:=aA
 clear oK
 refine (ON.out _).mono ?_
 rintro e aN3 ⟨rfl,nI⟩
 refine hJ _ _ nI ?_
 clear hJ J
 have rT:=Bt sP nI
 clear sP nI
 repeat (first|(refine ah rfl rfl fun J h=>?_;go_simp;refine h _ ?_;clear h J)|(refine aB rfl rfl rfl rfl fun J h=>?_;go_simp;refine h _ ?_;clear h J;try go_simp))
 refine aD rfl rfl (fun aA5 sU J hJ=>?_);go_simp
 have Pm:Below uY.heap.size uY aA5:=Bt rT aA
 clear sU rT
 refine (SU.out _ _ (X6.out.later Pm)).mono ?_
 rintro e aN2 ⟨rfl,Lc⟩
 refine hJ _ _ Lc ?_
 clear hJ J
 have kM:=Bt Pm Lc
 clear Pm Lc
 repeat (first|(refine ah rfl rfl fun J h=>?_;go_simp;refine h _ ?_;clear h J)|(refine aB rfl rfl rfl rfl fun J h=>?_;go_simp;refine h _ ?_;clear h J;try go_simp))
 refine aR rfl (fun WE aO0 ao5 FZ VR ad4 FI=>?_);go_simp;replace FI:au _ _ _ _:=FI;have ac5:w.heap.size≤WE:=(by first|omega|exact Nat.le_trans (Below.size (B:=w.heap.size) aA) FZ)
 refine aI [_] rfl (fun am2 as8=>?_)
 have Pk:Below uY.heap.size uY am2:=Bt kM aA
 have hq0:=FI.later as8;have Tv:=hq0.cell;have Ta:=hq0.free
 clear FI as8 kM
 clear mo mg pX
 go_upto_region 16 with fail
 obtain ⟨U0,EW⟩:∃ y,((am2.setCell ⟨WE,0,none⟩ (.string r1)).setCell ⟨WE,1,none⟩ (.string r2))=y:=⟨_,rfl⟩
 have hz:Below uY.heap.size uY U0:=by rw [← EW];exact ((Pk.setCell FZ _).setCell FZ _)
 have X7:Hid (au U0 WE #[.string r1,.string r2] 36):=zh (by rw [← EW];exact ((hq0.set 0 _).set 1 _))
 rw [EW]
 clear EW hq0 Tv Ta Pk
 replace X1:=zh (X1.out.later hz)
 replace X2:=zh (X2.out.later hz)
 replace X3:=zh (X3.out.later hz)
 replace X4:=zh (X4.out.later hz)
 replace X5:=zh (X5.out.later hz)
 replace NM:=zh (NM.out.later hz)
 replace X6:=zh (X6.out.later hz)
 have ZK:=Bt Pb hz
 clear Pb
 clear hz
 clear ao5 FZ VR ad4 ac5
 have cX6:=X6.out.cell;have lX6:=X6.out.lt;have fX6:=X6.out.free
 have mo:=X3.out.cell;have mg:=X3.out.lt;have pX:=X3.out.free
 go_wp2_with fail
 clear cX6 lX6 fX6 mo mg pX
 refine (S1.out _).mono ?_
 rintro e aB2 ⟨rfl,wT⟩
 replace X1:=zh (X1.out.later wT)
 replace X2:=zh (X2.out.later wT)
 replace X3:=zh (X3.out.later wT)
 replace X4:=zh (X4.out.later wT)
 replace X5:=zh (X5.out.later wT)
 replace NM:=zh (NM.out.later wT)
 replace X6:=zh (X6.out.later wT)
 replace X7:=zh (X7.out.later wT)
 have aq1:=Bt ZK wT
 clear ZK
 clear wT
 have cX7:=X7.out.cell;have lX7:=X7.out.lt;have fX7:=X7.out.free
 go_wp2_with fail
 clear cX7 lX7 fX7
 refine (S2.out _).mono ?_
 rintro e aB1 ⟨rfl,CZ⟩
 replace X1:=zh (X1.out.later CZ)
 replace X2:=zh (X2.out.later CZ)
 replace X3:=zh (X3.out.later CZ)
 replace X4:=zh (X4.out.later CZ)
 replace X5:=zh (X5.out.later CZ)
 replace NM:=zh (NM.out.later CZ)
 replace X6:=zh (X6.out.later CZ)
 replace X7:=zh (X7.out.later CZ)
 have aD9:=Bt aq1 CZ
 clear aq1
 clear CZ
 have HK:=zh aD9
 obtain ⟨wl,Ewl⟩:∃ y,y=aB1:=⟨_,rfl⟩
 subst Ewl
 have xc1:=X1.out.cell
 have xl1:=X1.out.lt
 go_wp2_with fail
 have hbx:Below wl.heap.size wl (wl.alloc (.cells #[.string a1,.string a2,.string a3,.string a4,.string a5,.string a6] 36)):=aA
 refine (A1.out _ _ 36 _ (NM.out.later hbx) (light.aW.C8 (t:=⟨⟨a1,a2⟩,⟨a3,a4⟩,⟨a5,a6⟩⟩) (au.new _ _ _))).mono ?_
 rintro e w1 ⟨vo,rfl,hb1,hf⟩
 obtain ⟨ao,co,rfl, -⟩:=hf.read
 have P9:=zh hf
 have z1:=Bt hbx hb1
 clear hf hbx hb1 xc1 xl1
 have xc2:=(X2.out.later z1).cell
 have xl2:=(X2.out.later z1).lt
 go_wp2_with fail
 have hbx:Below w1.heap.size w1 (w1.alloc (.cells #[.string b1,.string b2,.string b3,.string b4,.string b5,.string b6] 36)):=aA
 refine (A2.out _ _ 36 _ (NM.out.later (Bt z1 hbx)) (light.aW.C8 (t:=⟨⟨b1,b2⟩,⟨b3,b4⟩,⟨b5,b6⟩⟩) (au.new _ _ _))).mono ?_
 rintro e w2 ⟨vo,rfl,hb2,hf⟩
 obtain ⟨ap,cp,rfl, -⟩:=hf.read
 have HF2:=zh hf
 have z2:=Bt hbx hb2
 replace P9:=zh (P9.out.later z2)
 have ZL:=zh (Bt z1 z2)
 clear hf hbx hb2 xc2 xl2 z1 z2
 replace X3:=zh (X3.out.later ZL.out)
 replace X4:=zh (X4.out.later ZL.out)
 replace X5:=zh (X5.out.later ZL.out)
 replace X6:=zh (X6.out.later ZL.out)
 replace X7:=zh (X7.out.later ZL.out)
 have HW:=zh (Bt HK.out ZL.out)
 clear X1 X2 NM ZL HK A1 A2 CO SA SB CK ON SU S1 S2
 go_wp2_with fail
 go_loopw [20] (fun iv wr=>∃ k:Nat,iv= .int .i64 (k:Int)∧k≤3∧Hid (∀ j,j<k→P j≠0)∧Below w2.heap.size w2 wr) (fun iv _=>3 - (intOf iv).toNat)
 case atStart=>exact ⟨0,rfl,by omega,zh (fun j h=>by omega),Below.refl _ _⟩
 case round =>
  obtain ⟨k,rfl,hk,HKK,hb⟩:=hrel
  rcases Nat.lt_or_ge k 3 with hlt|hge
  ·have S:=zh (SP.out k hlt)
   obtain ⟨a',cap',e1, -, -, hat⟩:=(P9.out.later hb).read
   obtain ⟨b,off,e2,lb,y1,y2⟩:=hat k hlt
   simp only [Value.slice.injEq] at e1
   obtain ⟨rfl, -, rfl⟩:=e1
   subst e2
   have ek:([Fr.of (P 0),Fr.of (P 1),Fr.of (P 2)]:List Fr)[k]'hlt=Fr.of (P k):=by
    rcases (by omega:k=0∨k=1∨k=2) with rfl|rfl|rfl<;>rfl
   rw [ek] at y1 y2
   clear hat ek
   obtain ⟨⟨s1,s2⟩,E⟩:∃ y,Fr.of (P k)=y:=⟨_,rfl⟩
   rw [E] at y1 y2 S
   unfold Fr.v at S
   simp only at y1 y2
   clear E
   by_cases hz:P k=0
   ·have HZ:=zh (ZN.out k hlt hz)
    have hc:gV (P k) 0=0:=adapt.ko.2 hz
    rw [hc] at S
    clear hz hc
    go_wp2_with fail
    refine (S.out _).mono ?_
    rintro e w3 ⟨rfl,hb3⟩
    have hb4:=Bt hb hb3
    have hres:=X4.out.later hb4
    have iU:=hres.cell
    have iT:=hres.free
    have Vw:=hres.lt
    have hno:=X5.out.later hb4
    have cno:=hno.cell
    have lno:=hno.lt
    have HW4:=zh (Bt HW.out hb4)
    go_wp2_with fail
    rw [show ez=7 by rw [← EZ.out,HZ.out];rfl,show tz=noT by rw [← TZ.out,HZ.out];rfl]
    have hw4:=HW4.out
    refine aP rfl rfl aJ Tryz.underlying37 rfl zk ?_
    exact ⟨rfl,aA⟩
   ·have hc:(gV (P k) 0 == 0)=false:=beq_eq_false_iff_ne.2 fun h=>hz (adapt.ko.1 h)
    have HZ:=zh hz
    generalize gV (P k) 0=cc at *
    clear hz
    go_wp2_with fail
    refine (S.out _).mono ?_
    rintro e w3 ⟨rfl,hb3⟩
    go_wp2_with fail
    go_roundw
    case rel =>
     refine ⟨k+1,by go_num,by omega,zh fun j hj=>?_,Bt hb hb3⟩
     rcases Nat.lt_or_ge j k with h|h
     ·exact HKK.out j h
     ·obtain rfl:j=k:=by omega
      exact HZ.out
    case measure=>exact zM
  ·obtain rfl:k=3:=by omega
   rw [show ((3:Nat):Int)=3 from rfl]
   have HZ:=zh (ZY.out HKK.out)
   have TGZ:=zh (TG.out HZ.out)
   replace P9:=zh (P9.out.later hb)
   replace HF2:=zh (HF2.out.later hb)
   replace X3:=zh (X3.out.later hb)
   replace X4:=zh (X4.out.later hb)
   replace X5:=zh (X5.out.later hb)
   replace X6:=zh (X6.out.later hb)
   replace X7:=zh (X7.out.later hb)
   replace HW:=zh (Bt HW.out hb)
   obtain ⟨G,HG⟩:∃ G:Nat→Fr,Hid ((fun i=>Fr.of (adapt.jR q (P i) (R i)))=G):=⟨_,zh rfl⟩
   have HT:Hid (adapt.bJ (fun i=>adapt.jR q (P i) (R i))=⟨G 0,G 1,G 2⟩):=zh (by rw [← HG.out];rfl)
   have eg:∀ i,Fr.of (adapt.jR q (P i) (R i))=G i:=fun i=>by rw [← HG.out]
   simp only [eg] at TGZ
   clear eg HG TG SP ZN ZY HKK hb
   have hpost:∀ e w',qH w 0 ⟨G 0,G 1,G 2⟩ e w'→qH w ez tz e w':=fun e w' h=>by
    rw [← EZ.out,← TZ.out,HZ.out,if_neg zi,if_neg zi,HT.out];exact h
   have Yl:=zh hpost
   clear hpost HZ HT
   obtain ⟨wv,rfl⟩:∃ wv:World,wv=wr:=⟨_,rfl⟩
   go_wp2_with fail
   have h3:Below wv.heap.size wv (wv.alloc (.cells noT.cells 37)):=aA
   have hx:=au.new wv noT.cells 37
   obtain ⟨w4,E4⟩:∃ y,wv.alloc (.cells noT.cells 37)=y:=⟨_,rfl⟩
   rw [E4] at h3 hx
   have hE:wv.alloc (.cells #[.string ⟨#[]⟩,.string ⟨#[]⟩,.string ⟨#[]⟩,.string ⟨#[]⟩,.string ⟨#[]⟩,.string ⟨#[]⟩] 37)=w4:=E4
   rw [hE]
   obtain ⟨p9,E9⟩:∃ y,wv.heap.size=y:=⟨_,rfl⟩
   have h9:wv.heap.size≤p9:=by omega
   have hw9:w.heap.size≤p9:=by have:=HW.out.size;omega
   rw [E9] at hx ⊢
   have X9:=zh hx
   have HB9:=zh h3
   clear E4 E9 hE hx h3
   go_loopw [22] (fun iv wr=>∃ (k:Nat) (T:light.aW),iv= .int .i64 (k:Int)∧k≤3∧Hid (au wr p9 T.cells 37)∧Hid (∀ j,j<k→T.get j=G j)∧Below wv.heap.size wv wr) (fun iv _=>3 - (intOf iv).toNat)
   case atStart=>exact ⟨0,noT,rfl,by omega,X9,zh (fun j h=>by omega),HB9.out⟩
   case round =>
    obtain ⟨k,T,rfl,hk,XB,XT,hb⟩:=hrel
    rcases Nat.lt_or_ge k 3 with hlt|hge
    ·have el:∀ U:Nat→Rat,([Fr.of (U 0),Fr.of (U 1),Fr.of (U 2)]:List Fr)[k]'hlt=Fr.of (U k):=fun U=>by
      rcases (by omega:k=0∨k=1∨k=2) with rfl|rfl|rfl<;>rfl
     obtain ⟨a',cap',e1, -, -, hat⟩:=(P9.out.later hb).read
     obtain ⟨b1',off1,e2,lb1,y1,y2⟩:=hat k hlt
     simp only [Value.slice.injEq] at e1
     obtain ⟨rfl, -, rfl⟩:=e1
     subst e2
     rw [el P] at y1 y2
     clear hat
     obtain ⟨a',cap',e1, -, -, hat⟩:=(HF2.out.later hb).read
     obtain ⟨b2',off2,e2,Ip,y3,y4⟩:=hat k hlt
     simp only [Value.slice.injEq] at e1
     obtain ⟨rfl, -, rfl⟩:=e1
     subst e2
     rw [el R] at y3 y4
     clear hat el
     have TGK:=zh (TGZ.out k hlt)
     obtain ⟨⟨p1,p2⟩,EP⟩:∃ y,Fr.of (P k)=y:=⟨_,rfl⟩
     obtain ⟨⟨r3,r4⟩,ER⟩:∃ y,Fr.of (R k)=y:=⟨_,rfl⟩
     rw [EP] at y1 y2 TGK
     rw [ER] at y3 y4 TGK
     simp only at y1 y2 y3 y4
     obtain ⟨⟨g1',g2'⟩,EG⟩:∃ y,G k=y:=⟨_,rfl⟩
     rw [EG] at TGK
     have Yp:=zh EG
     have x3:=(X3.out.later hb).cell
     have l3:=(X3.out.later hb).lt
     have x7:=(X7.out.later hb).cell
     have l7:=(X7.out.later hb).lt
     have X6':=zh (X6.out.later hb)
     obtain ⟨d1',d2'⟩:=aW.at XB.out hlt
     clear EP ER EG d1' d2'
     go_wp2_with fail
     refine aC [(.pure,0),(.read,1),(.pure,2),(.pure,3),(.pure,4),(.read,5),(.pure,6),(.pure,7),(.pure,8),(.read,9),(.read,12),(.ext,10),(.ext,11),(.ext,13),(.pure,14),(.fin,15)] zk zk zR zP ?_;refine Wk.out ?_;(iterate 11 (first|(apply iX;(rfl);(rfl);(rfl);(intro J hJ;go_simp;(with_reducible refine hJ _ ?_);clear hJ J))|(apply jX;(rfl);(rfl);(rfl);(rfl);(exact zk);(intro J hJ;go_simp;(with_reducible refine hJ _ ?_);clear hJ J))|(apply iG;(rfl);(rfl);(intro J hJ;go_simp;(with_reducible refine hJ _ ?_);clear hJ J))|(apply iY;(rfl);(rfl);(rfl);(rfl);(intro J hJ;go_simp;(with_reducible refine hJ _ ?_);clear hJ J;try go_simp))))
     refine jM rfl rfl (fun wa hba J hJ=>?_);go_simp
     have z1:Below wr.heap.size wr wa:=aA
     obtain ⟨⟨t1,t2⟩,⟨t3,t4⟩,DV,ML,AD⟩:=TGK.out _ wa (X6'.out.later z1)
     have Gn:=zh ML
     have HAD:=zh AD
     clear ML AD
     dsimp only at DV Gn HAD
     refine DV.mono ?_
     rintro e wb ⟨rfl,hbb⟩
     have z2:=Bt z1 hbb
     refine hJ _ _ hbb ?_
     clear hJ J DV hba hbb z1
     refine jM rfl rfl (fun wc hbc J hJ=>?_);go_simp
     have z3:=Bt z2 (show Below wb.heap.size wb wc from aA)
     refine (Gn.out _ (X6'.out.later z3)).mono ?_
     rintro e wd ⟨rfl,hbd⟩
     have z4:=Bt z3 hbd
     refine hJ _ _ hbd ?_
     clear hJ J hbc hbd z2 z3
     refine jM rfl rfl (fun we hbe J hJ=>?_);go_simp
     have z5:=Bt z4 (show Below wd.heap.size wd we from aA)
     refine (HAD.out _ (X6'.out.later z5)).mono ?_
     rintro e wf ⟨rfl,hbf⟩
     have z6:=Bt z5 hbf
     refine hJ _ _ hbf ?_
     clear hJ J hbe hbf z4 z5 Gn HAD
     (iterate 1 (first|(apply iX;(rfl);(rfl);(rfl);(intro J hJ;go_simp;(with_reducible refine hJ _ ?_);clear hJ J))|(apply jX;(rfl);(rfl);(rfl);(rfl);(exact zk);(intro J hJ;go_simp;(with_reducible refine hJ _ ?_);clear hJ J))|(apply iG;(rfl);(rfl);(intro J hJ;go_simp;(with_reducible refine hJ _ ?_);clear hJ J))|(apply iY;(rfl);(rfl);(rfl);(rfl);(intro J hJ;go_simp;(with_reducible refine hJ _ ?_);clear hJ J;try go_simp))))
     refine Aa [_] rfl (fun wh Qj=>?_)
     have z7:=Bt z6 Qj
     have Y9:=XB.out.later z7
     obtain ⟨c1',c2'⟩:=aW.at Y9 hlt
     have l9:=Y9.lt
     have f9:=Y9.free
     have hN:=(Y9.set (k*2) (.string g1')).set (k*2+1) (.string g2')
     rw [J6 T hlt ⟨g1',g2'⟩] at hN
     have NB:=zh hN
     have BN:Hid (Below wv.heap.size wv ((wh.setCell ⟨p9,k*2,none⟩ (.string g1')).setCell ⟨p9,k*2+1,none⟩ (.string g2'))):=zh (((Bt hb z7).setCell (p:=⟨p9,k*2,none⟩) h9 (.string g1')).setCell (p:=⟨p9,k*2+1,none⟩) h9 (.string g2'))
     clear hN Qj z6 z7 x3 l3 x7 l7 y1 y2 y3 y4
     go_wp2_with fail
     go_roundw
     case rel =>
      refine ⟨k+1,YP T k ⟨g1',g2'⟩,by go_num,by omega,NB,zh fun j hj=>?_,BN.out⟩
      rw [QZ hlt zo]
      split
      ·rename_i h;rw [h,Yp.out]
      ·rename_i h;exact XT.out j zo
     case measure=>exact zM
    ·obtain rfl:k=3:=by omega
     have e0:=XT.out 0 zo
     have e1:=XT.out 1 zo
     have e2:=XT.out 2 zo
     obtain ⟨⟨x1,x2⟩,⟨x3,x4⟩,⟨x5,x6⟩⟩:=T
     have HE:Hid ((⟨G 0,G 1,G 2⟩:light.aW)=⟨⟨x1,x2⟩,⟨x3,x4⟩,⟨x5,x6⟩⟩):=zh (by rw [← e0,← e1,← e2];rfl)
     clear e0 e1 e2
     have xb:au wr p9 #[.string x1,.string x2,.string x3,.string x4,.string x5,.string x6] 37:=XB.out
     have cb:=xb.cell
     have lb:=xb.lt
     have hs:=X6.out.later hb
     have cs:=hs.cell
     have ls:=hs.lt
     have hres:=X4.out.later hb
     have iU:=hres.cell
     have iT:=hres.free
     have Vw:=hres.lt
     have hw4:=Bt HW.out hb
     rw [HE.out] at Yl
     go_wp2_with fail
     refine aP rfl rfl aJ Tryz.underlying37 rfl zk ?_
     exact Yl.out _ _ ⟨rfl,aA⟩
theorem inv_eq:∀ m,m<4→bW 3 (adapt.aY m)≠0∧LB (adapt.aY m) 3=matrix.lK (adapt.aY m):=by decide+kernel
theorem rG (k:Int) (a b t:light.aW) (d:Fr) (er:Int) (w:World) (he:er≠0) (GA:∀ W,Calls Tryz.prog 39 #[.int .i64 k,a.v,b.v,d.v] W (qH W er t)) (m:List (List Fr)) :
  Calls Tryz.prog 15 #[.int .i64 k,a.v,b.v,d.v] w (aQ w er m):=by
 have GG:=zh GA
 have ne:(er != 0)=true:=bne_iff_ne.2 he
 have HE:=zh he
 obtain ⟨⟨a1,a2⟩,⟨a3,a4⟩,⟨a5,a6⟩⟩:=a
 obtain ⟨⟨b1,b2⟩,⟨b3,b4⟩,⟨b5,b6⟩⟩:=b
 obtain ⟨⟨t1,t2⟩,⟨t3,t4⟩,⟨t5,t6⟩⟩:=t
 obtain ⟨d1,d2⟩:=d
 unfold qH light.aW.v light.aW.cells Fr.v at GG
 unfold light.aW.v light.aW.cells Fr.v
 clear GA he
 go_enter Tryz.func15,Tryz.ntmps15
 go_wp2_with fail
 refine (GG.out _).mono ?_
 rintro e w1 ⟨rfl,hb⟩
 have HB:=zh (show Below w.heap.size w w1 from Bt aA hb)
 clear hb
 go_wp2_with fail
 go_ret2
 have hb:=HB.out
 exact aQ.no aA HE.out
theorem LH (m:Nat) (hm:m<4) (a b:light.aW) (d:Fr) (g:Nat→Rat) (hg:adapt.dM g=true) (w:World) (GA:∀ W,Calls Tryz.prog 39 #[.int .i64 ((m:Int)+1),a.v,b.v,d.v] W (qH W 0 (adapt.bJ g)))
  (hs:matrix.iF (matrix.jd (matrix.lK (adapt.aY m)) (adapt.jJ g) 3)=true) :
  Calls Tryz.prog 15 #[.int .i64 ((m:Int)+1),a.v,b.v,d.v] w (aQ w (if matrix.iF (matrix.jd (matrix.jd (matrix.lK (adapt.aY m)) (adapt.jJ g) 3) (adapt.aY m) 3) then 0 else 6) (matrix.jd (matrix.jd (matrix.lK (adapt.aY m)) (adapt.jJ g) 3) (adapt.aY m) 3).fr):=by
 have GG:=zh GA
 have okC:=adapt.tH m hm
 have okI:=adapt.RQ m hm
 have okD:=adapt.IX g hg
 have lC:(adapt.aY m).length=3:=rfl
 have lI:(matrix.lK (adapt.aY m)).length=3:=rfl
 have lD:(adapt.jJ g).length=3:=rfl
 have CO:=zh (fun W=>pz m hm W)
 have IV:=zh (fun v W h=>aK.LQ v (adapt.aY m) 3 W h okC lC (inv_eq m hm).1)
 rw [(inv_eq m hm).2,if_pos (adapt.inv0 m hm).2] at IV
 have hfl:∀ x∈(adapt.bJ g).list,Fits x:=by
  have h:=hg
  unfold adapt.dM at h
  simp only [Bool.and_eq_true] at h
  intro x hx
  simp only [light.aW.list,adapt.bJ,List.mem_cons,List.not_mem_nil,or_false] at hx
  rcases hx with rfl|rfl|rfl
  ·exact fC h.1.1
  ·exact fC h.1.2
  ·exact fC h.2
 have hol:Kn (adapt.bJ g).list=true:=by
  have h:=hg
  unfold adapt.dM at h
  simp only [Bool.and_eq_true] at h
  show Kn [Fr.of (g 0),Fr.of (g 1),Fr.of (g 2)]=true
  simp [Kn,jc h.1.1,jc h.1.2,jc h.2]
 have DG:=zh (fun v W (h:jL W 36 v (adapt.bJ g).list)=>aK.tX v (adapt.bJ g).list 36 W h (by show 1≤3;omega) (by show 3≤4;omega) hol hfl)
 rw [adapt.IY g] at DG
 have M1:=zh (fun va vb W h1 h2=>aK.tQ va vb (matrix.lK (adapt.aY m)) (adapt.jJ g) 3 W h1 h2 (by rw [lD];exact okI) okD)
 rw [if_pos hs] at M1
 have okS:(matrix.jd (matrix.lK (adapt.aY m)) (adapt.jJ g) 3).ok 3:=adapt.MP (by rw [lI];omega) (by rw [lI];omega) zo zo hs
 have M2:=zh (fun va vb W h1 h2=>aK.tQ va vb (matrix.jd (matrix.lK (adapt.aY m)) (adapt.jJ g) 3) (adapt.aY m) 3 W h1 h2 (by rw [lC];exact okS) okC)
 generalize (if matrix.iF (matrix.jd (matrix.jd (matrix.lK (adapt.aY m)) (adapt.jJ g) 3) (adapt.aY m) 3) then (0:Int) else 6)=er at *
 generalize (matrix.jd (matrix.jd (matrix.lK (adapt.aY m)) (adapt.jJ g) 3) (adapt.aY m) 3).fr=RR at *
 generalize (matrix.jd (matrix.lK (adapt.aY m)) (adapt.jJ g) 3).fr=SS at *
 generalize (matrix.lK (adapt.aY m)).fr=II at *
 generalize (adapt.jJ g).fr=DD at *
 generalize (adapt.aY m).fr=CC at *
 clear hol hfl okC okI okD okS lC lI lD hs hg GA hm
 generalize (m:Int)+1=k at *
 obtain ⟨⟨a1,a2⟩,⟨a3,a4⟩,⟨a5,a6⟩⟩:=a
 obtain ⟨⟨b1,b2⟩,⟨b3,b4⟩,⟨b5,b6⟩⟩:=b
 obtain ⟨⟨⟨t1,t2⟩,⟨t3,t4⟩,⟨t5,t6⟩⟩,ET⟩:∃ y,adapt.bJ g=y:=⟨_,rfl⟩
 rw [ET] at GG DG
 clear ET
 obtain ⟨d1,d2⟩:=d
 unfold qH light.aW.v light.aW.cells Fr.v at GG
 unfold light.aW.v light.aW.cells Fr.v
 go_enter Tryz.func15,Tryz.ntmps15
 go_wp2_with fail
 refine (GG.out _).mono ?_
 rintro e w1 ⟨rfl,hb⟩
 have hb1:Below w.heap.size w w1:=Bt aA hb
 have hbx:Below w1.heap.size w1 (w1.alloc (.cells #[.string t1,.string t2,.string t3,.string t4,.string t5,.string t6] 37)):=aA
 have hx:=au.new w1 #[.string t1,.string t2,.string t3,.string t4,.string t5,.string t6] 37
 have HB1:=zh hb1
 clear hb hb1
 go_wp2_with fail
 have HB2:=zh (Bt HB1.out hbx)
 refine (CO.out _).mono ?_
 rintro e w2 ⟨hb2,v,rfl,hc, -⟩
 replace hc:=hc rfl
 obtain ⟨pc,lc,cc,rfl⟩:=jE hc
 have HC:=zh hc
 have HX:=zh (hx.later hb2)
 have HB3:=zh (Bt HB2.out hb2)
 clear hc hx hb2 hbx HB1 HB2
 go_wp2_with fail
 refine (IV.out _ _ HC.out).mono ?_
 rintro e w3 ⟨hb3,v,rfl,hi, -⟩
 replace hi:=hi rfl
 obtain ⟨pi',li,ci,rfl⟩:=jE hi
 have HI:=zh hi
 replace HX:=zh (HX.out.later hb3)
 replace HC:=zh (HC.out.later hb3)
 replace HB3:=zh (Bt HB3.out hb3)
 clear hi hb3
 have cx:=HX.out.cell
 have lx:=HX.out.lt
 generalize w1.heap.size=p at *
 go_wp2_with fail
 have hbx:Below w3.heap.size w3 (w3.alloc (.cells #[.string t1,.string t2,.string t3,.string t4,.string t5,.string t6] 36)):=aA
 refine (DG.out _ _ (light.aW.C8 (t:=⟨⟨t1,t2⟩,⟨t3,t4⟩,⟨t5,t6⟩⟩) (au.new _ _ _))).mono ?_
 rintro e w4 ⟨hb4,v,rfl,hd, -⟩
 replace hd:=hd rfl
 obtain ⟨pd,ld,cd,rfl⟩:=jE hd
 have HD:=zh hd
 have z:=Bt hbx hb4
 replace HI:=zh (HI.out.later z)
 replace HC:=zh (HC.out.later z)
 replace HB3:=zh (Bt HB3.out z)
 clear hd hb4 hbx z cx lx HX
 go_wp2_with fail
 refine (M1.out _ _ _ HI.out HD.out).mono ?_
 rintro e w5 ⟨hb5,v,rfl,hp, -⟩
 replace hp:=hp rfl
 obtain ⟨pp,lp,cp,rfl⟩:=jE hp
 have HP:=zh hp
 replace HC:=zh (HC.out.later hb5)
 replace HB3:=zh (Bt HB3.out hb5)
 clear hp hb5
 go_wp2_with fail
 refine (M2.out _ _ _ HP.out HC.out).mono ?_
 rintro e w6 ⟨hb6,v,rfl,y1,y2⟩
 have HQ:Hid (aQ w er RR (.returned (.tuple #[v,.int .i64 er])) w6):=zh ⟨Bt HB3.out hb6,v,rfl,y1,y2⟩
 clear y1 y2 hb6
 go_wp2_with fail
 go_ret2
 exact HQ.out
theorem Uu (k:Int) (hk:k<1∨4<k) (w:World):Calls Tryz.prog 40 #[.int .i64 k] w (fun e w'=>e= .returned (.tuple #[.slice none 0 0,.int .i64 2])∧Below w.heap.size w w'):=by
 have n1:k≠1:=by omega
 have n2:k≠2:=by omega
 have n3:k≠3:=by omega
 have n4:k≠4:=by omega
 clear hk
 go_enter Tryz.func40,Tryz.ntmps40
 go_wp2_with fail
 go_ret2
 exact ⟨rfl,aA⟩
theorem LZ (k:Int) (hk:k<1∨4<k) (a b:light.aW) (d:Fr) (w:World) :
  Calls Tryz.prog 39 #[.int .i64 k,a.v,b.v,d.v] w (qH w 2 noT):=by
 have CO:=zh (fun W=>Uu k hk W)
 obtain ⟨⟨a1,a2⟩,⟨a3,a4⟩,⟨a5,a6⟩⟩:=a
 obtain ⟨⟨b1,b2⟩,⟨b3,b4⟩,⟨b5,b6⟩⟩:=b
 obtain ⟨d1,d2⟩:=d
 clear hk
 unfold qH noT light.aW.v light.aW.cells Fr.v
 go_enter Tryz.func39,Tryz.ntmps39
 go_wp2_with fail
 have hz:Below w.heap.size w (((((w.alloc (.cells #[.string a1,.string a2,.string a3,.string a4,.string a5,.string a6] 38)).alloc (.cells #[.string b1,.string b2,.string b3,.string b4,.string b5,.string b6] 38)).alloc (.cells #[.string d1,.string d2] 36)).alloc (.cells #[.string ⟨#[]⟩,.string ⟨#[]⟩,.string ⟨#[]⟩,.string ⟨#[]⟩,.string ⟨#[]⟩,.string ⟨#[]⟩] 37)).alloc (.cells #[.string ⟨#[]⟩,.string ⟨#[]⟩,.string ⟨#[]⟩,.string ⟨#[]⟩,.string ⟨#[]⟩,.string ⟨#[]⟩] 37)):=aA
 obtain ⟨aO,EW⟩:∃ y,(((((w.alloc (.cells #[.string a1,.string a2,.string a3,.string a4,.string a5,.string a6] 38)).alloc (.cells #[.string b1,.string b2,.string b3,.string b4,.string b5,.string b6] 38)).alloc (.cells #[.string d1,.string d2] 36)).alloc (.cells #[.string ⟨#[]⟩,.string ⟨#[]⟩,.string ⟨#[]⟩,.string ⟨#[]⟩,.string ⟨#[]⟩,.string ⟨#[]⟩] 37)).alloc (.cells #[.string ⟨#[]⟩,.string ⟨#[]⟩,.string ⟨#[]⟩,.string ⟨#[]⟩,.string ⟨#[]⟩,.string ⟨#[]⟩] 37))=y:=⟨_,rfl⟩
 have X4:Hid (au aO (w.heap.size+1+1+1) #[.string ⟨#[]⟩,.string ⟨#[]⟩,.string ⟨#[]⟩,.string ⟨#[]⟩,.string ⟨#[]⟩,.string ⟨#[]⟩] 37):=zh (by rw [← EW];exact au.alloc (au.at3 _ _ _ _ _ _) _)
 have X5:Hid (au aO (w.heap.size+1+1+1+1) #[.string ⟨#[]⟩,.string ⟨#[]⟩,.string ⟨#[]⟩,.string ⟨#[]⟩,.string ⟨#[]⟩,.string ⟨#[]⟩] 37):=zh (by rw [← EW];exact au.at4 _ _ _ _ _ _ _)
 rw [EW] at hz ⊢
 have hk2:=Bt (Below.refl _ _) hz
 clear EW hz
 refine (CO.out _).mono ?_
 rintro e fM ⟨rfl,hb3⟩
 replace X4:=zh (X4.out.later hb3)
 replace X5:=zh (X5.out.later hb3)
 have hk5:=Bt hk2 hb3
 clear hk2
 clear hb3
 have zS:=X5.out.cell;have zJ:=X5.out.lt;have XY:=X5.out.free
 have rX:=X4.out.cell;have rW:=X4.out.lt;have JJ:=X4.out.free
 have hres:=X4.out
 have iU:=hres.cell
 have iT:=hres.free
 have Vw:=hres.lt
 have hno:=X5.out
 have cno:=hno.cell
 have lno:=hno.lt
 go_wp2_with fail
 refine aP rfl rfl aJ Tryz.underlying37 rfl zk ?_
 exact ⟨rfl,aA⟩
def Gg (a:light.aW):Prop:=uX a∧(light.gF a=0→∃ s,a=adapt.bJ s∧adapt.Sd s)
theorem IZ {f g:Nat→Rat} (h:∀ i,i<3→f i=g i):adapt.jJ f=adapt.jJ g:=by
 unfold adapt.jJ
 refine List.map_congr_left fun i hi=>List.map_congr_left fun j hj=>?_
 rw [h i (List.mem_range.1 hi)]
theorem OX {k:Int} (hk:k<1∨4<k) (a b:light.aW) (d:Fr):adapt.sK k a b d=2:=by
 have h:adapt.iB k=2:=by unfold adapt.iB;rw [if_pos hk]
 unfold adapt.sK adapt.gB adapt.mY
 rw [h]
 rfl
theorem OW {m:Nat} (hm:m<4) {a b:light.aW} {d:Fr} (h1:light.gF a≠0):adapt.sK ((m:Int)+1) a b d=light.gF a:=by
 have h:adapt.iB ((m:Int)+1)=0:=by unfold adapt.iB;rw [if_neg zo]
 have ha:adapt.mY ((m:Int)+1) a b d=light.gF a:=by
  unfold adapt.mY
  rw [h,if_neg zo,if_pos h1]
 have hg:adapt.gB ((m:Int)+1) a b d=light.gF a:=by
  unfold adapt.gB
  rw [ha,if_pos h1]
 unfold adapt.sK
 rw [hg,if_pos h1]
theorem OT {m:Nat} (hm:m<4) {a b:light.aW} {d:Fr} (h1:light.gF a=0) (h2:light.gF b≠0):adapt.sK ((m:Int)+1) a b d=light.gF b:=by
 have h:adapt.iB ((m:Int)+1)=0:=by unfold adapt.iB;rw [if_neg zo]
 have ha:adapt.mY ((m:Int)+1) a b d=light.gF b:=by
  unfold adapt.mY
  rw [h,if_neg zo,if_neg zo,if_pos h2]
 have hg:adapt.gB ((m:Int)+1) a b d=light.gF b:=by
  unfold adapt.gB
  rw [ha,if_pos h2]
 unfold adapt.sK
 rw [hg,if_pos h2]
theorem PZ (k:Int) (a b:light.aW) (ta:Gg a) (tb:Gg b) (q:Rat) (q0:0≤q) (q1:q≤1) (hq:adapt.Ht 10 q) (w:World) :
  Calls Tryz.prog 15 #[.int .i64 k,a.v,b.v,(Fr.of q).v] w (aQ w (adapt.sK k a b (Fr.of q)) (adapt.rQ k a b (Fr.of q)).fr):=by
 by_cases hk:k<1∨4<k
 ·rw [OX hk]
  exact rG k a b noT (Fr.of q) 2 w zo (fun W=>LZ k hk a b (Fr.of q) W) _
 ·obtain ⟨m,hm,rfl⟩:∃ m:Nat,m<4∧k=(m:Int)+1:=⟨(k - 1).toNat,by omega,by omega⟩
  by_cases h1:light.gF a=0
  ·by_cases h2:light.gF b=0
   ·obtain ⟨s,rfl,ss⟩:=ta.2 h1
    obtain ⟨t,rfl,st⟩:=tb.2 h2
    obtain ⟨e1,e2,e3⟩:=adapt.Vu hm ss st h1 h2 hq q0 q1
    have hP:∀ i,i<3→adapt.iJ (adapt.aY m) s i=adapt.resp m s i:=fun i hi=>adapt.Fa (adapt.kR m) s i hi
    have hR:∀ i,i<3→adapt.iJ (adapt.aY m) t i=adapt.resp m t i:=fun i hi=>adapt.Fa (adapt.kR m) t i hi
    have hz:adapt.eY (adapt.iJ (adapt.aY m) s)=adapt.eY (adapt.resp m s):=adapt.yI hP
    have G:=fun W=>LY m hm s t q W (adapt.rC ss.ok) (adapt.rC st.ok) h1 h2 q0 q1 hq _ _ rfl rfl
     (adapt.rC fun i hi=>by rw [hP i hi];exact (ss.rh hm hi).ok zo) (adapt.rC fun i hi=>by rw [hR i hi];exact (st.rh hm hi).ok zo)
     (fun _ i hi=>by rw [hP i hi,hR i hi];exact ss.gok hm st hq hi)
    rw [hz] at G
    rw [e1]
    cases hzz:adapt.eY (adapt.resp m s) with
    | true =>
     rw [hzz] at G
     exact rG _ _ _ noT (Fr.of q) 7 w zo G _
    | false =>
     rw [hzz] at G
     have hg:∀ i,i<3→adapt.jR q (adapt.iJ (adapt.aY m) s i) (adapt.iJ (adapt.aY m) t i)=adapt.iN ((m:Int)+1) (adapt.bJ s) (adapt.bJ t) (Fr.of q) i:=fun i hi=>by
      rw [adapt.vN ss st hq i hi,hP i hi,hR i hi]
      rfl
     have hd:=IZ hg
     have hs:adapt.lZ ((m:Int)+1) (adapt.bJ s) (adapt.bJ t) (Fr.of q)=matrix.jd (matrix.lK (adapt.aY m)) (adapt.jJ fun i=>adapt.jR q (adapt.iJ (adapt.aY m) s i) (adapt.iJ (adapt.aY m) t i)) 3:=by
      unfold adapt.lZ
      rw [show ((m:Int)+1 - 1).toNat=m by omega,hd]
     have hr:adapt.rQ ((m:Int)+1) (adapt.bJ s) (adapt.bJ t) (Fr.of q)=matrix.jd (matrix.jd (matrix.lK (adapt.aY m)) (adapt.jJ fun i=>adapt.jR q (adapt.iJ (adapt.aY m) s i) (adapt.iJ (adapt.aY m) t i)) 3) (adapt.aY m) 3:=by
      unfold adapt.rQ
      rw [hs,show ((m:Int)+1 - 1).toNat=m by omega]
     have y:=LH m hm (adapt.bJ s) (adapt.bJ t) (Fr.of q) (fun i=>adapt.jR q (adapt.iJ (adapt.aY m) s i) (adapt.iJ (adapt.aY m) t i))
      (adapt.rC fun i hi=>by rw [hg i hi,adapt.vN ss st hq i hi];exact (ss.gh hm st hq hi).ok zo) w G (by rw [← hs];exact e2)
     rw [← hr,if_pos e3] at y
     exact y
   ·rw [OT hm h1 h2]
    exact rG _ _ _ noT (Fr.of q) _ w h2 (fun W=>L6 m hm a b (Fr.of q) W ta.1 tb.1 h1 h2) _
  ·rw [OW hm h1]
   exact rG _ _ _ noT (Fr.of q) _ w h1 (fun W=>L8 m hm a b (Fr.of q) W ta.1 tb.1 h1) _
end Go.Proofs.aZ
namespace Go.Proofs.aL
open Go Go.RowKit Go.SW Go.Num Go.Mem Go.Proofs Go.Dec Go.dx
theorem Vm {q:Rat} (h1:q.num.natAbs≤65535) (h2:q.den≤65535):dz q=true:=by
 have ht:65535<gT 600:=by
  unfold gT
  have:=Nat.pow_le_pow_right (n:=10) zo (show 5≤600 by omega)
  omega
 unfold dz Kj
 rw [Bool.and_eq_true]
 exact ⟨decide_eq_true zo,decide_eq_true zo⟩
theorem Ko {n:Int} (h1:0≤n) (h2:n≤65535) (w:World):Calls Tryz.prog 18 #[.int .i64 n,.int .i64 1000] w (fun e w'=>e= .returned (Fr.of (verdigrislaw25.q2 n 1000)).v∧Below w.heap.size w w'):=by
 have h:=tO n 1000 zo zo zo zo w
 have e:(yR n 1000).1=Fr.of (verdigrislaw25.q2 n 1000):=by
  unfold yR wr verdigrislaw25.q2
  rw [if_neg zo]
  have hk:dz ((n:Rat) / (1000:Int))=true:=by
   obtain ⟨l1,l2⟩:=aH.FB (n:=n) (d:=1000) zo
   exact Vm zo zo
  rw [if_pos hk]
 rw [e] at h
 exact h
theorem af5 (a b c:Int) (ha:0≤a∧a≤65535) (hb:0≤b∧b≤65535) (hc:0≤c∧c≤65535) (w:World) :
  Calls Tryz.prog 12 #[.agg #[.int .u16 a,.int .u16 b,.int .u16 c]] w (fun e w'=>e= .returned (verdigrislaw25.tq a b c 1000).v∧Below w.heap.size w w'):=by
 have H1:=zh (fun W=>Ko (n:=a) zo zo W)
 have H2:=zh (fun W=>Ko (n:=b) zo zo W)
 have H3:=zh (fun W=>Ko (n:=c) zo zo W)
 have W0:∀ z:Int,0≤z∧z≤65535→IntKind.i64.wrap z=z:=fun z h=>by unfold IntKind.wrap;simp [IntKind.bits];omega
 have wa:=W0 a ha
 have wb:=W0 b hb
 have wc:=W0 c hc
 obtain ⟨⟨⟨s1,t1⟩,⟨s2,t2⟩,⟨s3,t3⟩⟩,E⟩:∃ y,verdigrislaw25.tq a b c 1000=y:=⟨_,rfl⟩
 rw [E]
 unfold verdigrislaw25.tq at E
 injection E with E1 E2 E3
 rw [E1] at H1
 rw [E2] at H2
 rw [E3] at H3
 unfold Fr.v at H1 H2 H3
 clear E1 E2 E3 ha hb hc W0
 go_enter Tryz.func12,Tryz.ntmps12
 go_wp2_with fail
 have hz:Below w.heap.size w ((w.alloc (.cells #[.int .u16 a,.int .u16 b,.int .u16 c] 24)).alloc (.cells #[.string ⟨#[]⟩,.string ⟨#[]⟩,.string ⟨#[]⟩,.string ⟨#[]⟩,.string ⟨#[]⟩,.string ⟨#[]⟩] 38)):=aA
 obtain ⟨aO,EW⟩:∃ y,((w.alloc (.cells #[.int .u16 a,.int .u16 b,.int .u16 c] 24)).alloc (.cells #[.string ⟨#[]⟩,.string ⟨#[]⟩,.string ⟨#[]⟩,.string ⟨#[]⟩,.string ⟨#[]⟩,.string ⟨#[]⟩] 38))=y:=⟨_,rfl⟩
 have X1:Hid (au aO (w.heap.size) #[.int .u16 a,.int .u16 b,.int .u16 c] 24):=zh (by rw [← EW];exact au.alloc (au.new _ _ _) _)
 have X2:Hid (au aO (w.heap.size+1) #[.string ⟨#[]⟩,.string ⟨#[]⟩,.string ⟨#[]⟩,.string ⟨#[]⟩,.string ⟨#[]⟩,.string ⟨#[]⟩] 38):=zh (by rw [← EW];exact au.fZ _ _ _ _)
 rw [EW] at hz ⊢
 have hk2:=Bt (Below.refl _ _) hz
 clear EW hz
 have eP:=X1.out.cell;have eO:=X1.out.lt;have fU:=X1.out.free
 refine aC [(.pure,0),(.read,1),(.pure,2),(.pure,4),(.read,5),(.pure,6),(.pure,8),(.read,9),(.pure,10),(.ext,3),(.ext,7),(.ext,11),(.pure,12),(.fin,13)] zk zk zR zP ?_
 repeat (first|(refine ah rfl rfl fun J h=>?_;go_simp;refine h _ ?_;clear h J)|(refine aB rfl rfl rfl rfl fun J h=>?_;go_simp;refine h _ ?_;clear h J;try go_simp))
 refine aD rfl rfl (fun uZ hb3 J hJ=>?_);go_simp
 have hh3:Below aO.heap.size aO uZ:=aA
 clear hb3
 refine (H1.out _).mono ?_
 rintro e rP ⟨rfl,hb4⟩
 refine hJ _ _ hb4 ?_
 clear hJ J
 have ow:=Bt hh3 hb4
 clear hh3 hb4
 repeat (first|(refine ah rfl rfl fun J h=>?_;go_simp;refine h _ ?_;clear h J)|(refine aB rfl rfl rfl rfl fun J h=>?_;go_simp;refine h _ ?_;clear h J;try go_simp))
 refine aD rfl rfl (fun qL hb6 J hJ=>?_);go_simp
 have iD:Below aO.heap.size aO qL:=Bt ow aA
 clear hb6 ow
 refine (H2.out _).mono ?_
 rintro e ku ⟨rfl,dQ⟩
 refine hJ _ _ dQ ?_
 clear hJ J
 have oU:=Bt iD dQ
 clear iD dQ
 repeat (first|(refine ah rfl rfl fun J h=>?_;go_simp;refine h _ ?_;clear h J)|(refine aB rfl rfl rfl rfl fun J h=>?_;go_simp;refine h _ ?_;clear h J;try go_simp))
 refine aD rfl rfl (fun pW gX J hJ=>?_);go_simp
 have gH:Below aO.heap.size aO pW:=Bt oU aA
 clear gX oU
 refine (H3.out _).mono ?_
 rintro e dO ⟨rfl,dh⟩
 refine hJ _ _ dh ?_
 clear hJ J
 have fE:=Bt gH dh
 clear gH dh
 repeat (first|(refine ah rfl rfl fun J h=>?_;go_simp;refine h _ ?_;clear h J)|(refine aB rfl rfl rfl rfl fun J h=>?_;go_simp;refine h _ ?_;clear h J;try go_simp))
 refine aI [_] rfl (fun mV yh=>?_)
 have hh12:Below aO.heap.size aO mV:=Bt fE aA
 clear yh fE
 clear eP eO fU
 replace X1:=zh (X1.out.later hh12)
 replace X2:=zh (X2.out.later hh12)
 have KW:=Bt hk2 hh12
 clear hk2
 clear hh12
 have dY:=X2.out.cell;have dW:=X2.out.lt;have gN:=X2.out.free
 have hres:=X2.out
 have iU:=hres.cell
 have iT:=hres.free
 go_wp2_with fail
 refine bO rfl rfl aJ Tryz.underlying38 rfl zk ?_
 exact ⟨rfl,aA⟩
def mO (s:ByteArray):ByteArray:=s.extract 0 (min (s.size:Int) 20).toNat
theorem Bz (s:ByteArray):(mO s).size≤20:=by
 unfold mO
 rw [ByteArray.size_extract]
 omega
theorem Xk (s t:ByteArray) (w:World) :
  Calls Tryz.prog 19 #[.agg #[.string s,.string t]] w (fun e w'=>e= .returned (.agg #[.string (mO s),.string (mO t)])∧Below w.heap.size w w'):=by
 have qs1:0≤min (s.size:Int) 20:=by omega
 have qs2:min (s.size:Int) 20≤s.size:=by omega
 have qt1:0≤min (t.size:Int) 20:=by omega
 have qt2:min (t.size:Int) 20≤t.size:=by omega
 unfold mO
 go_enter Tryz.func19,Tryz.ntmps19
 go_wp2_with fail
 have hz:Below w.heap.size w ((w.alloc (.cells #[.string s,.string t] 26)).alloc (.cells #[.string ⟨#[]⟩,.string ⟨#[]⟩] 36)):=aA
 obtain ⟨aO,EW⟩:∃ y,((w.alloc (.cells #[.string s,.string t] 26)).alloc (.cells #[.string ⟨#[]⟩,.string ⟨#[]⟩] 36))=y:=⟨_,rfl⟩
 have X1:Hid (au aO (w.heap.size) #[.string s,.string t] 26):=zh (by rw [← EW];exact au.alloc (au.new _ _ _) _)
 have X2:Hid (au aO (w.heap.size+1) #[.string ⟨#[]⟩,.string ⟨#[]⟩] 36):=zh (by rw [← EW];exact au.fZ _ _ _ _)
 rw [EW] at hz ⊢
 have hk2:=Bt (Below.refl _ _) hz
 clear EW hz
 have eP:=X1.out.cell;have eO:=X1.out.lt;have fU:=X1.out.free
 refine aC [(.pure,0),(.read,1),(.pure,2),(.read,3),(.pure,4),(.pure,5),(.pure,6),(.pure,7),(.read,8),(.pure,9),(.read,10),(.pure,11),(.pure,12),(.pure,13),(.pure,14),(.fin,15)] zk zk zR zP ?_
 repeat (first|(refine ah rfl rfl fun J h=>?_;go_simp;refine h _ ?_;clear h J)|(refine aB rfl rfl rfl rfl fun J h=>?_;go_simp;refine h _ ?_;clear h J;try go_simp))
 refine aI [_] rfl (fun wf3 hf3=>?_)
 have hh3:Below aO.heap.size aO wf3:=aA
 clear hf3
 clear eP eO fU
 replace X1:=zh (X1.out.later hh3)
 replace X2:=zh (X2.out.later hh3)
 have hk4:=Bt hk2 hh3
 clear hk2
 clear hh3
 have dY:=X2.out.cell;have dW:=X2.out.lt;have gN:=X2.out.free
 have hres:=X2.out
 have iU:=hres.cell
 have iT:=hres.free
 go_wp2_with fail
 refine bO rfl rfl aJ Tryz.underlying36 rfl zk ?_
 exact ⟨rfl,aA⟩
def TM (k:Int) (f:Fr) (t:light.aW):light.aW:=if k%3=0 then { t with x:=f } else if k%3=1 then { t with y:=f } else { t with z:=f }
theorem Xm (k:Int) (hk:0≤k∧k≤255) (s t:ByteArray) (s1 t1 s2 t2 s3 t3:ByteArray) (w:World) :
  Calls Tryz.prog 11 #[.agg #[.int .u8 k,.string s,.string t],.agg #[.string s1,.string t1,.string s2,.string t2,.string s3,.string t3]] w
   (fun e w'=>e= .returned (TM k ⟨mO s,mO t⟩ ⟨⟨s1,t1⟩,⟨s2,t2⟩,⟨s3,t3⟩⟩).v∧Below w.heap.size w w'):=by
 have H1:=zh (fun W=>Xk s t W)
 generalize mO s=u at H1 ⊢
 generalize mO t=v at H1 ⊢
 have hm:k.tmod 3=k%3:=Int.tmod_eq_emod_of_nonneg hk.1
 have hw:∀ z:Int,0≤z∧z≤255→IntKind.u8.wrap z=z:=fun z h=>by unfold IntKind.wrap;simp [IntKind.bits,IntKind.signed];omega
 have hl:k%3=0∨k%3=1∨k%3=2:=by omega
 have hw2:=hw (k%3) zo
 clear hw hk
 unfold TM
 rcases hl with hl|hl|hl
 ·rw [hl] at hm hw2 ⊢
  clear hl
  go_enter Tryz.func11,Tryz.ntmps11
  go_wp2_with fail
  have hz:Below w.heap.size w (((w.alloc (.cells #[.int .u8 k,.string s,.string t] 28)).alloc (.cells #[.string s1,.string t1,.string s2,.string t2,.string s3,.string t3] 38)).alloc (.cells #[.string ⟨#[]⟩,.string ⟨#[]⟩,.string ⟨#[]⟩,.string ⟨#[]⟩,.string ⟨#[]⟩,.string ⟨#[]⟩] 38)):=aA
  obtain ⟨aO,EW⟩:∃ y,(((w.alloc (.cells #[.int .u8 k,.string s,.string t] 28)).alloc (.cells #[.string s1,.string t1,.string s2,.string t2,.string s3,.string t3] 38)).alloc (.cells #[.string ⟨#[]⟩,.string ⟨#[]⟩,.string ⟨#[]⟩,.string ⟨#[]⟩,.string ⟨#[]⟩,.string ⟨#[]⟩] 38))=y:=⟨_,rfl⟩
  have X1:Hid (au aO (w.heap.size) #[.int .u8 k,.string s,.string t] 28):=zh (by rw [← EW];exact au.alloc (au.alloc (au.new _ _ _) _) _)
  have X2:Hid (au aO (w.heap.size+1) #[.string s1,.string t1,.string s2,.string t2,.string s3,.string t3] 38):=zh (by rw [← EW];exact au.alloc (au.fZ _ _ _ _) _)
  have X3:Hid (au aO (w.heap.size+1+1) #[.string ⟨#[]⟩,.string ⟨#[]⟩,.string ⟨#[]⟩,.string ⟨#[]⟩,.string ⟨#[]⟩,.string ⟨#[]⟩] 38):=zh (by rw [← EW];exact au.at2 _ _ _ _ _)
  rw [EW] at hz ⊢
  have hk2:=Bt (Below.refl _ _) hz
  clear EW hz
  have eP:=X1.out.cell;have eO:=X1.out.lt;have fU:=X1.out.free
  refine aC [(.pure,0),(.read,1),(.pure,2),(.pure,3),(.read,4),(.ext,5),(.pure,6),(.fin,7)] zk zk zR zP ?_
  repeat (first|(refine ah rfl rfl fun J h=>?_;go_simp;refine h _ ?_;clear h J)|(refine aB rfl rfl rfl rfl fun J h=>?_;go_simp;refine h _ ?_;clear h J;try go_simp))
  refine aD rfl rfl (fun uZ hb3 J hJ=>?_);go_simp
  have hh3:Below aO.heap.size aO uZ:=aA
  clear hb3
  refine (H1.out _).mono ?_
  rintro e rP ⟨rfl,hb4⟩
  refine hJ _ _ hb4 ?_
  clear hJ J
  have ow:=Bt hh3 hb4
  clear hh3 hb4
  repeat (first|(refine ah rfl rfl fun J h=>?_;go_simp;refine h _ ?_;clear h J)|(refine aB rfl rfl rfl rfl fun J h=>?_;go_simp;refine h _ ?_;clear h J;try go_simp))
  refine aI [_] rfl (fun Mf hf6=>?_)
  have iD:Below aO.heap.size aO Mf:=Bt ow aA
  clear hf6 ow
  clear eP eO fU
  replace X1:=zh (X1.out.later iD)
  replace X2:=zh (X2.out.later iD)
  replace X3:=zh (X3.out.later iD)
  have Cz:=Bt hk2 iD
  clear hk2
  clear iD
  have dY:=X2.out.cell;have dW:=X2.out.lt;have gN:=X2.out.free
  have mo:=X3.out.cell;have mg:=X3.out.lt;have pX:=X3.out.free
  go_upto_region 2 with fail
  clear dY dW gN mo mg pX
  have hz:Below w.heap.size w ((Mf.setCell ⟨w.heap.size+1,0,none⟩ (.string u)).setCell ⟨w.heap.size+1,1,none⟩ (.string v)):=aA
  obtain ⟨Xo,EW⟩:∃ y,((Mf.setCell ⟨w.heap.size+1,0,none⟩ (.string u)).setCell ⟨w.heap.size+1,1,none⟩ (.string v))=y:=⟨_,rfl⟩
  have JW:=((X2.out.set 0 (.string u)).set 1 (.string v))
  have JV:=((X3.out.setOther (a:=⟨w.heap.size+1,0,none⟩) (.string u) (by first|assumption|(simp;done)|(simp;omega))).setOther (a:=⟨w.heap.size+1,1,none⟩) (.string v) (by first|assumption|(simp;done)|(simp;omega)))
  clear X1
  rw [EW] at JW
  replace X2:Hid (au Xo (w.heap.size+1) #[.string u,.string v,.string s2,.string t2,.string s3,.string t3] 38):=zh JW
  clear JW
  rw [EW] at JV
  replace X3:Hid (au Xo (w.heap.size+1+1) #[.string ⟨#[]⟩,.string ⟨#[]⟩,.string ⟨#[]⟩,.string ⟨#[]⟩,.string ⟨#[]⟩,.string ⟨#[]⟩] 38):=zh JV
  clear JV
  rw [EW] at hz ⊢
  clear EW
  clear Cz
  have oI:=hz
  clear hz
  have dY:=X2.out.cell;have dW:=X2.out.lt;have gN:=X2.out.free
  have mo:=X3.out.cell;have mg:=X3.out.lt;have pX:=X3.out.free
  have hres:=X3.out
  have iU:=hres.cell
  have iT:=hres.free
  go_wp2_with fail
  refine bO rfl rfl aJ Tryz.underlying38 rfl zk ?_
  exact ⟨rfl,aA⟩
 ·rw [hl] at hm hw2 ⊢
  clear hl
  go_enter Tryz.func11,Tryz.ntmps11
  go_wp2_with fail
  have hz:Below w.heap.size w (((w.alloc (.cells #[.int .u8 k,.string s,.string t] 28)).alloc (.cells #[.string s1,.string t1,.string s2,.string t2,.string s3,.string t3] 38)).alloc (.cells #[.string ⟨#[]⟩,.string ⟨#[]⟩,.string ⟨#[]⟩,.string ⟨#[]⟩,.string ⟨#[]⟩,.string ⟨#[]⟩] 38)):=aA
  obtain ⟨aO,EW⟩:∃ y,(((w.alloc (.cells #[.int .u8 k,.string s,.string t] 28)).alloc (.cells #[.string s1,.string t1,.string s2,.string t2,.string s3,.string t3] 38)).alloc (.cells #[.string ⟨#[]⟩,.string ⟨#[]⟩,.string ⟨#[]⟩,.string ⟨#[]⟩,.string ⟨#[]⟩,.string ⟨#[]⟩] 38))=y:=⟨_,rfl⟩
  have X1:Hid (au aO (w.heap.size) #[.int .u8 k,.string s,.string t] 28):=zh (by rw [← EW];exact au.alloc (au.alloc (au.new _ _ _) _) _)
  have X2:Hid (au aO (w.heap.size+1) #[.string s1,.string t1,.string s2,.string t2,.string s3,.string t3] 38):=zh (by rw [← EW];exact au.alloc (au.fZ _ _ _ _) _)
  have X3:Hid (au aO (w.heap.size+1+1) #[.string ⟨#[]⟩,.string ⟨#[]⟩,.string ⟨#[]⟩,.string ⟨#[]⟩,.string ⟨#[]⟩,.string ⟨#[]⟩] 38):=zh (by rw [← EW];exact au.at2 _ _ _ _ _)
  rw [EW] at hz ⊢
  have hk2:=Bt (Below.refl _ _) hz
  clear EW hz
  have eP:=X1.out.cell;have eO:=X1.out.lt;have fU:=X1.out.free
  refine aC [(.pure,0),(.read,1),(.pure,2),(.pure,3),(.read,4),(.ext,5),(.pure,6),(.fin,7)] zk zk zR zP ?_
  repeat (first|(refine ah rfl rfl fun J h=>?_;go_simp;refine h _ ?_;clear h J)|(refine aB rfl rfl rfl rfl fun J h=>?_;go_simp;refine h _ ?_;clear h J;try go_simp))
  refine aD rfl rfl (fun uZ hb3 J hJ=>?_);go_simp
  have hh3:Below aO.heap.size aO uZ:=aA
  clear hb3
  refine (H1.out _).mono ?_
  rintro e rP ⟨rfl,hb4⟩
  refine hJ _ _ hb4 ?_
  clear hJ J
  have ow:=Bt hh3 hb4
  clear hh3 hb4
  repeat (first|(refine ah rfl rfl fun J h=>?_;go_simp;refine h _ ?_;clear h J)|(refine aB rfl rfl rfl rfl fun J h=>?_;go_simp;refine h _ ?_;clear h J;try go_simp))
  refine aI [_] rfl (fun Mf hf6=>?_)
  have iD:Below aO.heap.size aO Mf:=Bt ow aA
  clear hf6 ow
  clear eP eO fU
  replace X1:=zh (X1.out.later iD)
  replace X2:=zh (X2.out.later iD)
  replace X3:=zh (X3.out.later iD)
  have Cz:=Bt hk2 iD
  clear hk2
  clear iD
  have dY:=X2.out.cell;have dW:=X2.out.lt;have gN:=X2.out.free
  have mo:=X3.out.cell;have mg:=X3.out.lt;have pX:=X3.out.free
  go_upto_region 2 with fail
  clear dY dW gN mo mg pX
  have hz:Below w.heap.size w ((Mf.setCell ⟨w.heap.size+1,2,none⟩ (.string u)).setCell ⟨w.heap.size+1,3,none⟩ (.string v)):=aA
  obtain ⟨Xo,EW⟩:∃ y,((Mf.setCell ⟨w.heap.size+1,2,none⟩ (.string u)).setCell ⟨w.heap.size+1,3,none⟩ (.string v))=y:=⟨_,rfl⟩
  have JW:=((X2.out.set 2 (.string u)).set 3 (.string v))
  have JV:=((X3.out.setOther (a:=⟨w.heap.size+1,2,none⟩) (.string u) (by first|assumption|(simp;done)|(simp;omega))).setOther (a:=⟨w.heap.size+1,3,none⟩) (.string v) (by first|assumption|(simp;done)|(simp;omega)))
  clear X1
  rw [EW] at JW
  replace X2:Hid (au Xo (w.heap.size+1) #[.string s1,.string t1,.string u,.string v,.string s3,.string t3] 38):=zh JW
  clear JW
  rw [EW] at JV
  replace X3:Hid (au Xo (w.heap.size+1+1) #[.string ⟨#[]⟩,.string ⟨#[]⟩,.string ⟨#[]⟩,.string ⟨#[]⟩,.string ⟨#[]⟩,.string ⟨#[]⟩] 38):=zh JV
  clear JV
  rw [EW] at hz ⊢
  clear EW
  clear Cz
  have oI:=hz
  clear hz
  have dY:=X2.out.cell;have dW:=X2.out.lt;have gN:=X2.out.free
  have mo:=X3.out.cell;have mg:=X3.out.lt;have pX:=X3.out.free
  have hres:=X3.out
  have iU:=hres.cell
  have iT:=hres.free
  go_wp2_with fail
  refine bO rfl rfl aJ Tryz.underlying38 rfl zk ?_
  exact ⟨rfl,aA⟩
 ·rw [hl] at hm hw2 ⊢
  clear hl
  go_enter Tryz.func11,Tryz.ntmps11
  go_wp2_with fail
  have hz:Below w.heap.size w (((w.alloc (.cells #[.int .u8 k,.string s,.string t] 28)).alloc (.cells #[.string s1,.string t1,.string s2,.string t2,.string s3,.string t3] 38)).alloc (.cells #[.string ⟨#[]⟩,.string ⟨#[]⟩,.string ⟨#[]⟩,.string ⟨#[]⟩,.string ⟨#[]⟩,.string ⟨#[]⟩] 38)):=aA
  obtain ⟨aO,EW⟩:∃ y,(((w.alloc (.cells #[.int .u8 k,.string s,.string t] 28)).alloc (.cells #[.string s1,.string t1,.string s2,.string t2,.string s3,.string t3] 38)).alloc (.cells #[.string ⟨#[]⟩,.string ⟨#[]⟩,.string ⟨#[]⟩,.string ⟨#[]⟩,.string ⟨#[]⟩,.string ⟨#[]⟩] 38))=y:=⟨_,rfl⟩
  have X1:Hid (au aO (w.heap.size) #[.int .u8 k,.string s,.string t] 28):=zh (by rw [← EW];exact au.alloc (au.alloc (au.new _ _ _) _) _)
  have X2:Hid (au aO (w.heap.size+1) #[.string s1,.string t1,.string s2,.string t2,.string s3,.string t3] 38):=zh (by rw [← EW];exact au.alloc (au.fZ _ _ _ _) _)
  have X3:Hid (au aO (w.heap.size+1+1) #[.string ⟨#[]⟩,.string ⟨#[]⟩,.string ⟨#[]⟩,.string ⟨#[]⟩,.string ⟨#[]⟩,.string ⟨#[]⟩] 38):=zh (by rw [← EW];exact au.at2 _ _ _ _ _)
  rw [EW] at hz ⊢
  have hk2:=Bt (Below.refl _ _) hz
  clear EW hz
  have eP:=X1.out.cell;have eO:=X1.out.lt;have fU:=X1.out.free
  refine aC [(.pure,0),(.read,1),(.pure,2),(.pure,3),(.read,4),(.ext,5),(.pure,6),(.fin,7)] zk zk zR zP ?_
  repeat (first|(refine ah rfl rfl fun J h=>?_;go_simp;refine h _ ?_;clear h J)|(refine aB rfl rfl rfl rfl fun J h=>?_;go_simp;refine h _ ?_;clear h J;try go_simp))
  refine aD rfl rfl (fun uZ hb3 J hJ=>?_);go_simp
  have hh3:Below aO.heap.size aO uZ:=aA
  clear hb3
  refine (H1.out _).mono ?_
  rintro e rP ⟨rfl,hb4⟩
  refine hJ _ _ hb4 ?_
  clear hJ J
  have ow:=Bt hh3 hb4
  clear hh3 hb4
  repeat (first|(refine ah rfl rfl fun J h=>?_;go_simp;refine h _ ?_;clear h J)|(refine aB rfl rfl rfl rfl fun J h=>?_;go_simp;refine h _ ?_;clear h J;try go_simp))
  refine aI [_] rfl (fun Mf hf6=>?_)
  have iD:Below aO.heap.size aO Mf:=Bt ow aA
  clear hf6 ow
  clear eP eO fU
  replace X1:=zh (X1.out.later iD)
  replace X2:=zh (X2.out.later iD)
  replace X3:=zh (X3.out.later iD)
  have Cz:=Bt hk2 iD
  clear hk2
  clear iD
  have dY:=X2.out.cell;have dW:=X2.out.lt;have gN:=X2.out.free
  have mo:=X3.out.cell;have mg:=X3.out.lt;have pX:=X3.out.free
  go_upto_region 2 with fail
  clear dY dW gN mo mg pX
  have hz:Below w.heap.size w ((Mf.setCell ⟨w.heap.size+1,4,none⟩ (.string u)).setCell ⟨w.heap.size+1,5,none⟩ (.string v)):=aA
  obtain ⟨Xo,EW⟩:∃ y,((Mf.setCell ⟨w.heap.size+1,4,none⟩ (.string u)).setCell ⟨w.heap.size+1,5,none⟩ (.string v))=y:=⟨_,rfl⟩
  have JW:=((X2.out.set 4 (.string u)).set 5 (.string v))
  have JV:=((X3.out.setOther (a:=⟨w.heap.size+1,4,none⟩) (.string u) (by first|assumption|(simp;done)|(simp;omega))).setOther (a:=⟨w.heap.size+1,5,none⟩) (.string v) (by first|assumption|(simp;done)|(simp;omega)))
  clear X1
  rw [EW] at JW
  replace X2:Hid (au Xo (w.heap.size+1) #[.string s1,.string t1,.string s2,.string t2,.string u,.string v] 38):=zh JW
  clear JW
  rw [EW] at JV
  replace X3:Hid (au Xo (w.heap.size+1+1) #[.string ⟨#[]⟩,.string ⟨#[]⟩,.string ⟨#[]⟩,.string ⟨#[]⟩,.string ⟨#[]⟩,.string ⟨#[]⟩] 38):=zh JV
  clear JV
  rw [EW] at hz ⊢
  clear EW
  clear Cz
  have oI:=hz
  clear hz
  have dY:=X2.out.cell;have dW:=X2.out.lt;have gN:=X2.out.free
  have mo:=X3.out.cell;have mg:=X3.out.lt;have pX:=X3.out.free
  have hres:=X3.out
  have iU:=hres.cell
  have iT:=hres.free
  go_wp2_with fail
  refine bO rfl rfl aJ Tryz.underlying38 rfl zk ?_
  exact ⟨rfl,aA⟩
end Go.Proofs.aL
namespace Go.Proofs.aZ
open Go Go.RowKit Go.SW Go.Num Go.Mem Go.Proofs Go.Dec Go.dx Go.Proofs.aH Go.Proofs.aK Go.Proofs.aL
theorem QL {x y z:Fr} (h:light.gF ⟨x,y,z⟩=0):(rd x).isSome=true∧(rd y).isSome=true∧(rd z).isSome=true:=by
 have h1:light.jC ⟨x,y,z⟩=0:=by
  unfold light.gF at h
  by_cases hc:light.jC ⟨x,y,z⟩=0
  ·exact hc
  ·rw [if_neg hc] at h
   exact h
 have h2:dK [x,y,z]=0:=by
  unfold light.jC at h1
  by_cases hc:dK [x,y,z]=0
  ·exact hc
  ·rw [show light.aW.list ⟨x,y,z⟩=[x,y,z] from rfl,if_neg hc] at h1
   omega
 unfold dK at h2
 by_cases hc:([x,y,z].all fun a=>(rd a).isSome)=true
 ·simpa using hc
 ·rw [if_neg hc] at h2
  omega
def Few (k:Nat) (x:Fr):Prop:=Fits x∧((rd x).isSome=true→∃ q,x=Fr.of q∧adapt.Ht k q)
theorem zH {a b c:Nat} {x y z:Fr} (h:a+b+c≤40) (hx:Few a x) (hy:Few b y) (hz:Few c z):Gg ⟨x,y,z⟩:=by
 refine ⟨fun i hi=>?_,fun hs=>?_⟩
 ·rcases (by omega:i=0∨i=1∨i=2) with rfl|rfl|rfl
  ·exact hx.1
  ·exact hy.1
  ·exact hz.1
 ·obtain ⟨s1,s2,s3⟩:=QL hs
  obtain ⟨p,rfl,hp⟩:=hx.2 s1
  obtain ⟨q,rfl,hq⟩:=hy.2 s2
  obtain ⟨r,rfl,hr⟩:=hz.2 s3
  exact ⟨fun i=>if i=0 then p else if i=1 then q else r,rfl,a,b,c,h,hp,hq,hr⟩
theorem nL {n:Int} (h1:0≤n) (h2:n≤65535):Few 5 (Fr.of (verdigrislaw25.q2 n 1000)):=by
 have ht:(65535:Nat)≤gT 5:=by decide
 have hq:adapt.Ht 5 (verdigrislaw25.q2 n 1000):=⟨n,1000,by omega,by omega,by omega,rfl⟩
 exact ⟨fC (hq.ok zo),fun _=>⟨_,rfl,hq⟩⟩
theorem F5 (s t:ByteArray):Few 20 ⟨mO s,mO t⟩:=by
 have hs:=Bz s
 have ht:=Bz t
 refine ⟨⟨by show (mO s).size≤_;omega,by show (mO t).size≤_;omega⟩,fun h=>?_⟩
 obtain ⟨q,hq⟩:=Option.isSome_iff_exists.1 h
 exact ⟨q,(jI hq).1,adapt.KL hq hs ht⟩
theorem Al {a b c:Int} (ha:0≤a∧a≤65535) (hb:0≤b∧b≤65535) (hc:0≤c∧c≤65535):Gg (verdigrislaw25.tq a b c 1000) :=
 zH zo (nL ha.1 ha.2) (nL hb.1 hb.2) (nL hc.1 hc.2)
theorem Oj {a b c:Int} (k:Int) (s t:ByteArray) (ha:0≤a∧a≤65535) (hb:0≤b∧b≤65535) (hc:0≤c∧c≤65535):Gg (TM k ⟨mO s,mO t⟩ (verdigrislaw25.tq a b c 1000)):=by
 unfold TM
 split
 ·exact zH (a:=20) (b:=5) (c:=5) zo (F5 s t) (nL hb.1 hb.2) (nL hc.1 hc.2)
 ·split
  ·exact zH (a:=5) (b:=20) (c:=5) zo (nL ha.1 ha.2) (F5 s t) (nL hc.1 hc.2)
  ·exact zH (a:=5) (b:=5) (c:=20) zo (nL ha.1 ha.2) (nL hb.1 hb.2) (F5 s t)
end Go.Proofs.aZ
namespace Go.Proofs.verdigrislaw25
open Go Go.RowKit Go.SW Go.Num Go.Mem Go.Proofs Go.Dec Go.dx
theorem bQ.row0 {w:World} {v:Value} {m:List (List Fr)} {x y z:Fr} (h:bQ w v m) (h3:m.length=3) (h0:m.headD []=[x,y,z]) :
  ∃ b off cap b2 off2 cap2,v= .slice (some ⟨b,off,none⟩) 3 cap∧b<w.heap.size∧w.cell? ⟨b,off,none⟩=some (.slice (some ⟨b2,off2,none⟩) 3 cap2)∧b2<w.heap.size ∧
   w.cell? ⟨b2,off2,none⟩=some (.string x.n)∧w.cell? ⟨b2,off2+1,none⟩=some (.string x.d)∧w.cell? ⟨b2,off2+2,none⟩=some (.string y.n)∧w.cell? ⟨b2,off2+3,none⟩=some (.string y.d) ∧
   w.cell? ⟨b2,off2+4,none⟩=some (.string z.n)∧w.cell? ⟨b2,off2+5,none⟩=some (.string z.d):=by
 obtain ⟨rs,hR,hl,hF⟩:=h
 rw [h3] at hl
 match rs,hl with
 | [r0,r1,r2],_ =>
  have hf:=hF 0 zi zo
  have e0:m[0]=[x,y,z]:=by
   match m,h3,h0 with
   | [a,b,c],_,h0=>exact h0
  rw [e0] at hf
  obtain ⟨a2,cap2,e2, -⟩:=id hf
  simp only [List.getElem_cons_zero] at e2 hf
  subst e2
  obtain ⟨-, b2,off2,rfl,Ip,hc⟩:=adapt.jL.cells hf zi
  have k0:=hc 0 zi
  have k1:=hc 1 zi
  have k2:=hc 2 zi
  rcases hR.cases with ⟨-, h1⟩|⟨b,off,cap,arr,rfl,k3, -, k4,k6⟩
  ·cases h1
  ·refine ⟨b,off,cap,b2,off2,cap2,rfl,k4.lt,?_,Ip,k0.1,k0.2,k1.1,k1.2,k2.1,k2.2⟩
   have:=k6 0 zi
   rw [k4.cell]
   simpa using this
theorem YL (va:Value) (m:List (List Fr)) (t:light.aW) (w:World) (h:bQ w va m) (h3:m.length=3) (h0:m.headD []=t.list) :
  Calls Tryz.prog 31 #[va,t.v] w (fun e w'=>e= .returned (.bool true)∧Below w.heap.size w w'):=by
 obtain ⟨⟨a1,a2⟩,⟨a3,a4⟩,⟨a5,a6⟩⟩:=t
 obtain ⟨b,off,cap,b2,off2,cap2,rfl,lb,hc,Ip,k1,k2,k3,k4,k5,k6⟩:=bQ.row0 h h3 h0
 unfold light.aW.v light.aW.cells
 have hb0:Below w.heap.size w (w.alloc (.cells #[.string a1,.string a2,.string a3,.string a4,.string a5,.string a6] 38)):=aA
 have hx:=au.new w #[.string a1,.string a2,.string a3,.string a4,.string a5,.string a6] 38
 obtain ⟨w0,kE⟩:∃ y,w.alloc (.cells #[.string a1,.string a2,.string a3,.string a4,.string a5,.string a6] 38)=y:=⟨_,rfl⟩
 rw [kE] at hb0 hx
 replace hc:=(hb0.cell (p:=⟨b,off,none⟩) lb).trans hc
 replace k1:=(hb0.cell (p:=⟨b2,off2,none⟩) Ip).trans k1
 replace k2:=(hb0.cell (p:=⟨b2,off2+1,none⟩) Ip).trans k2
 replace k3:=(hb0.cell (p:=⟨b2,off2+2,none⟩) Ip).trans k3
 replace k4:=(hb0.cell (p:=⟨b2,off2+3,none⟩) Ip).trans k4
 replace k5:=(hb0.cell (p:=⟨b2,off2+4,none⟩) Ip).trans k5
 replace k6:=(hb0.cell (p:=⟨b2,off2+5,none⟩) Ip).trans k6
 have cx:=hx.cell
 have lx:=hx.lt
 replace lb:b<w0.heap.size:=Nat.lt_of_lt_of_le lb hb0.size
 replace Ip:b2<w0.heap.size:=Nat.lt_of_lt_of_le Ip hb0.size
 clear h h3 h0
 go_enter Tryz.func31,Tryz.ntmps31
 go_wp2_with fail
 try rw [kE]
 refine aC ((.pure,0)::(.pure,1)::(.pure,2)::(.pure,3)::(.pure,4)::(.pure,5)::(.read,6)::(.pure,7)::(.pure,8)::(.pure,9)::(.pure,10)::(.pure,11)::(.pure,12)::(.read,13)::(.pure,14)::(.read,15)::(.pure,16)::(.read,17)::(.pure,18)::(.pure,19)::(.pure,20)::(.pure,21)::(.pure,22)::(.read,23)::(.pure,24)::(.read,25)::(.pure,26)::(.read,27)::(.pure,28)::(.pure,29)::(.pure,30)::(.pure,31)::(.pure,32)::(.read,33)::(.pure,34)::(.read,35)::(.pure,36)::(.read,37)::(.pure,38)::(.pure,39)::(.fin,40)::[]) zk zk zR zP ?_
 repeat (first|(refine ah rfl rfl fun J h=>?_;go_simp;refine h _ ?_;clear h J)|(refine aB rfl rfl rfl rfl fun J h=>?_;go_simp;refine h _ ?_;clear h J;try go_simp)|(refine gZ rfl rfl fun J h=>?_;go_simp;refine h _ ?_;clear h J)|(refine ig rfl rfl rfl rfl fun J h=>?_;go_simp;refine h _ ?_;clear h J;try go_simp))
 refine aI [_] rfl (fun w5 hb5=>?_)
 have h5:Below w.heap.size w w5:=Bt hb0 aA
 go_wp2_with fail
 go_ret
 exact ⟨rfl,h5⟩
end Go.Proofs.verdigrislaw25
