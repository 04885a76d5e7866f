/- verdigrislaw25.AdaptColours returns true. Conditions: those of the given row. -/
import Derived.Test.YtddblpggomphpaaGreatDoorXB01
import Derived.Test.YtddblpggomphpaaGreatDoorXB07
import Derived.Test.YtddblpggomphpaaGreatDoorXB09
import Derived.Test.YtddblpggomphpaaGreatDoorXB12
import Derived.Test.YtddblpggomphpaaGreatDoorXB13
import Derived.Test.YtddblpggomphpaaGreatDoorXB15
import Derived.Test.YtddblpggomphpaaGreatDoorCards
import Derived.Test.YtddblpggomphpaaGreatDoorTie
import Derived.ChangeSame
import Derived.ChangeVars
import Derived.ChangeMaps5
import Derived.ChangeArms
import Derived.JoinedOf
import Derived.SevenTiedAt
import Derived.Carry
set_option linter.unusedVariables false
set_option linter.unusedSimpArgs false
set_option maxRecDepth 100000
set_option maxHeartbeats 16000000
namespace Go.Proofs.verdigrislaw25
open Go Go.RowKit Go.SW Go.Num Go.Mem Go.Proofs Go.Dec Go.dB Go.Proofs.aG Go.Proofs.aI Go.Proofs.aK Go.Proofs.aV
theorem aS.sl {w w':World} {er:Int} {m:List (List Fr)} {e:Ending} (h:aS w er m e w'):Below w.heap.size w w'∧∃ pa l ca,e= .returned (.tuple #[.slice pa l ca,.int .i64 er])∧bO w' (.slice pa l ca) (if er=0 then m else []):=by
 obtain ⟨hb,v,rfl,h1,h2⟩:=h
 by_cases he:er=0
 ·subst he
  rw [if_pos rfl]
  obtain ⟨pa,l,ca,rfl⟩:=Oo (h1 rfl)
  exact ⟨hb,_,_,_,rfl,h1 rfl⟩
 ·rw [if_neg he,h2 he]
  exact ⟨hb,_,_,_,rfl,⟨[],Row.nil _ _,rfl,fun i h=>by cases h⟩⟩
def Both (w:World) (m:List (List Fr)) (y:Value):Prop:=∃ (er:Int) (g1 g2 g3 g4 g5 g6:ByteArray),Hid (∀ W va,Below w.heap.size w W→bO W va m→Calls Tryz.prog 20 #[va,y] W (fun e w'=>Below W.heap.size W w'∧e= .returned (.tuple #[.agg #[.string g1,.string g2,.string g3,.string g4,.string g5,.string g6],.int .i64 er]))) ∧
   Hid (∀ W va,bO W va m→Calls Tryz.prog 21 #[va,y] W (fun e w'=>Below W.heap.size W w'∧e= .returned (.tuple #[.agg #[.string g1,.string g2,.string g3,.string g4,.string g5,.string g6],.int .i64 er])))
theorem Oa (m:List (List Fr)) (t:light.aY) (hf:pQ m) (ht:zA t) (w:World) (hp:pR.Pow w):Both w m t.v:=by
 obtain ⟨⟨⟨g1,g2⟩,⟨g3,g4⟩,⟨g5,g6⟩⟩,E⟩:∃ y:light.aY,(if adapt.iV m t=0 then adapt.oJ m t else adapt.qz)=y:=⟨_,rfl⟩
 have hP:∀ W:World,adapt.fO W (adapt.iV m t) (adapt.oJ m t)=fun e w'=>Below W.heap.size W w'∧e= .returned (.tuple #[.agg #[.string g1,.string g2,.string g3,.string g4,.string g5,.string g6],.int .i64 (adapt.iV m t)]):=fun W=>by
  unfold adapt.fO
  rw [E]
  rfl
 exact ⟨_,g1,g2,g3,g4,g5,g6,zh fun W va hW hm=>hP W ▸ adapt.JW va m t W hm (hp.later hW),zh fun W va hm=>hP W ▸ UQ va m t W hm hf ht⟩
theorem zcI {G:Prop} (h:G:=by
 obtain ⟨er,g1,g2,g3,g4,g5,g6,A1,A2⟩:=PJ
 go_upto_region 19 with fail
 first
  | (have hbv:Below wr.heap.size wr (wr.alloc (.cells #[.string u1,.string u2,.string u3,.string u4,.string u5,.string u6] 38)):=aA;have XV:=zh (aB.new wr #[.string u1,.string u2,.string u3,.string u4,.string u5,.string u6] 38);obtain ⟨wv,EW⟩:∃ y,wr.alloc (.cells #[.string u1,.string u2,.string u3,.string u4,.string u5,.string u6] 38)=y:=⟨_,rfl⟩;rw [EW] at hbv XV ⊢)
  | (have hbv:Below wr.heap.size wr (wr.alloc (.cells #[.string z1,.string z2,.string z3,.string z4,.string z5,.string z6] 38)):=aA;have XV:=zh (aB.new wr #[.string z1,.string z2,.string z3,.string z4,.string z5,.string z6] 38);obtain ⟨wv,EW⟩:∃ y,wr.alloc (.cells #[.string z1,.string z2,.string z3,.string z4,.string z5,.string z6] 38)=y:=⟨_,rfl⟩;rw [EW] at hbv XV ⊢)
 have HV:=zh (Bt hb hbv)
 obtain ⟨bv,eb⟩:∃ y,wr.heap.size=y:=⟨_,rfl⟩
 rw [eb] at XV ⊢
 clear EW hjx hbv hb eb
 have cXV:=XV.out.cell;have lXV:=XV.out.lt
 go_wp2_with fail
 refine (A1.out _ _ (Bt HKi.out HV.out) (HMi.out.later HV.out)).mono ?_
 rintro e w1 ⟨hb1,rfl⟩
 have H1:=zh (Bt HV.out hb1)
 replace XV:=zh (XV.out.later hb1)
 clear hb1 cXV lXV HV A1
 go_upto_region 20 with fail
 have hbp:Below w1.heap.size w1 (w1.alloc (.cells #[.string g1,.string g2,.string g3,.string g4,.string g5,.string g6] 38)):=aA
 have XP:=zh (aB.new w1 #[.string g1,.string g2,.string g3,.string g4,.string g5,.string g6] 38)
 obtain ⟨wp,EW⟩:∃ y,w1.alloc (.cells #[.string g1,.string g2,.string g3,.string g4,.string g5,.string g6] 38)=y:=⟨_,rfl⟩
 rw [EW] at hbp XP ⊢
 replace H1:=zh (Bt H1.out hbp)
 replace XV:=zh (XV.out.later hbp)
 obtain ⟨bp,eb⟩:∃ y,w1.heap.size=y:=⟨_,rfl⟩
 rw [eb] at XP ⊢
 clear EW hbp eb
 have cXV:=XV.out.cell;have lXV:=XV.out.lt
 go_wp2_with fail
 refine (A2.out _ _ (HMi.out.later H1.out)).mono ?_
 rintro e w2 ⟨hb2,rfl⟩
 replace H1:=zh (Bt H1.out hb2)
 replace XP:=zh (XP.out.later hb2)
 clear hb2 cXV lXV XV A2
 go_upto_region 21 with fail
 have hbq:Below w2.heap.size w2 (w2.alloc (.cells #[.string g1,.string g2,.string g3,.string g4,.string g5,.string g6] 38)):=aA
 have XQ:=zh (aB.new w2 #[.string g1,.string g2,.string g3,.string g4,.string g5,.string g6] 38)
 obtain ⟨wq,EW⟩:∃ y,w2.alloc (.cells #[.string g1,.string g2,.string g3,.string g4,.string g5,.string g6] 38)=y:=⟨_,rfl⟩
 rw [EW] at hbq XQ ⊢
 replace H1:=zh (Bt H1.out hbq)
 replace XP:=zh (XP.out.later hbq)
 obtain ⟨bq,eb⟩:∃ y,w2.heap.size=y:=⟨_,rfl⟩
 rw [eb] at XQ ⊢
 clear EW hbq eb
 have cXP:=XP.out.cell;have lXP:=XP.out.lt
 have cXQ:=XQ.out.cell;have lXQ:=XQ.out.lt
 have YA:= @sH
 go_wp2_with fail
 have hz:=H1.out
 go_roundw
 case rel=>exact (by first|exact ⟨0+1,by go_num,by omega,hz⟩|exact ⟨1+1,by go_num,by omega,hz⟩)
 case measure=>simp [intOf]):G:=h
theorem zcO {G:Prop} (h:G:=by
 have hx4:=X4.out.later hb;have hx5:=X5.out.later hb
 have zT:=hx4.cell;have zF:=hx4.lt
 have zS:=hx5.cell;have zD:=hx5.lt
 have HKr:=zh (Bt HK.out hb)
 have HBr:=zh hb
 clear hb hx4 hx5
 go_wp2_with fail
 refine aC [(.read,0),(.read,2),(.read,3),(.pure,7),(.ext,1),(.ext,4),(.ext,5),(.pure,6)] zk zk zR zP ?_
 repeat (first|(refine ah rfl rfl fun J h=>?_;go_simp;refine h _ ?_;clear h J)|(refine au rfl rfl rfl rfl fun J h=>?_;go_simp;refine h _ ?_;clear h J;try go_simp))
 refine aD rfl rfl (fun aB5 aw0 J hJ=>?_);go_simp
 have fF:Below wr.heap.size wr aB5:=aA
 refine (WT.out _ (Bt HKr.out fF)).mono ?_
 rintro e dN ⟨rfl,Tk⟩
 refine hJ _ _ Tk ?_
 clear hJ J
 have as2:=Bt fF Tk
 clear fF aw0 Tk
 repeat (first|(refine ah rfl rfl fun J h=>?_;go_simp;refine h _ ?_;clear h J)|(refine au rfl rfl rfl rfl fun J h=>?_;go_simp;refine h _ ?_;clear h J;try go_simp))
 refine aD rfl rfl (fun aB4 av9 J hJ=>?_);go_simp
 have ab2:Below wr.heap.size wr aB4:=Bt as2 aA
 refine (WT.out _ (Bt HKr.out ab2)).mono ?_
 rintro e aO2 ⟨rfl,Tj⟩
 refine hJ _ _ Tj ?_
 clear hJ J
 have as1:=Bt ab2 Tj
 clear ab2 av9 Tj as2
 repeat (first|(refine ah rfl rfl fun J h=>?_;go_simp;refine h _ ?_;clear h J)|(refine au rfl rfl rfl rfl fun J h=>?_;go_simp;refine h _ ?_;clear h J;try go_simp))
 refine aD rfl rfl (fun oN av8 J hJ=>?_);go_simp
 have hh12:Below wr.heap.size wr oN:=Bt as1 aA
 refine (WZ.out _ (Bt HKr.out hh12)).mono ?_
 rintro e Fa ⟨rfl,Ti⟩
 refine hJ _ _ Ti ?_
 clear hJ J
 have as0:=Bt hh12 Ti
 clear hh12 av8 Ti as1
 repeat (first|(refine ah rfl rfl fun J h=>?_;go_simp;refine h _ ?_;clear h J)|(refine au rfl rfl rfl rfl fun J h=>?_;go_simp;refine h _ ?_;clear h J;try go_simp))
 refine walk_nil fun wf hbf=>?_
 have hr:Below ws.heap.size ws wf:=Bt HBr.out (Bt as0 aA)
 clear zT zS zF zD hix hbf as0
 obtain ⟨wi,Ewi⟩:∃ y,y=wf:=⟨_,rfl⟩
 subst Ewi
 have HMi:=zh (HMX.out.later hr)
 have HKi:=zh (Bt HK.out hr)
 have EO:=zh hr
 clear hr HMX
 go_wp2_with fail
 go_loopw [88] (fun iv wr=>∃ k:Nat,iv= .int .i64 (k:Int)∧k≤2∧Below wi.heap.size wi wr) (fun iv _=>2 - (intOf iv).toNat)
 case atStart=>exact ⟨0,rfl,by omega,Below.refl _ _⟩
 case round =>
  obtain ⟨k,rfl,hk,hb⟩:=hrel
  rcases Nat.lt_or_ge k 2 with hlt|hge
  ·rcases (by omega:k=0∨k=1) with rfl|rfl
   ·have hjx:∀ W:World,(Instr.index 40 (.agg #[.string u1,.string u2,.string u3,.string u4,.string u5,.string u6,.string z1,.string z2,.string z3,.string z4,.string z5,.string z6]) (.int .i64 0)).run Tryz.prog W= .ok (.agg #[.string u1,.string u2,.string u3,.string u4,.string u5,.string u6]) W:=fun W=>by kernel_rfl
    have PJ:=pO.out.1
    clear pO
    exact zcI
   ·have hjx:∀ W:World,(Instr.index 40 (.agg #[.string u1,.string u2,.string u3,.string u4,.string u5,.string u6,.string z1,.string z2,.string z3,.string z4,.string z5,.string z6]) (.int .i64 1)).run Tryz.prog W= .ok (.agg #[.string z1,.string z2,.string z3,.string z4,.string z5,.string z6]) W:=fun W=>by kernel_rfl
    have PJ:=pO.out.2
    clear pO
    exact zcI
  ·have hk2:k=2:=by omega
   subst hk2
   have hz:=Bt EO.out hb
   go_wp2_with fail
   go_roundw
   case rel=>exact (by first|exact ⟨0+1,by go_num,by omega,hz⟩|exact ⟨1+1,by go_num,by omega,hz⟩|exact ⟨2+1,by go_num,by omega,hz⟩|exact ⟨3+1,by go_num,by omega,hz⟩)
   case measure=>simp [intOf]):G:=h
theorem xQ (r c n a0 a1 a2 c0 c1 c2 t0 t1 t2 bk er:Int) (hn:0≤n∧n≤255) (al:Option Addr) (ll cl:Nat) (s t x1 x2 x3 x4 x5 x6 y1 y2 y3 y4 y5 y6 u1 u2 u3 u4 u5 u6 z1 z2 z3 z4 z5 z6 q1 q2 f1 f2:ByteArray)
  (M R:List (List Fr)) (nn mm:Nat) (hM:M.length=nn) (n1:1≤nn) (n4:nn≤4) (hMm:∀ r∈M,r.length=mm) (m1:1≤mm) (m4:mm≤4) (FM:pQ M) (FR:pQ R) (hf1:f1.size≤20) (hf2:f2.size≤20) (w:World)
  (WO:Hid (J5 w 9 #[] (.bool true)))
  (MD:Hid (∀ W,Below w.heap.size w W→Calls Tryz.prog 17 #[.agg #[.int .u8 r,.int .u8 c,.slice al ll cl]] W (fun e w'=>∃ v',e= .returned v'∧Below W.heap.size W w'∧bO w' v' M)))
  (WX:Hid (J5 w 10 #[.agg #[.int .u16 a0,.int .u16 a1,.int .u16 a2]] (.agg #[.string x1,.string x2,.string x3,.string x4,.string x5,.string x6])))
  (WY:Hid (J5 w 10 #[.agg #[.int .u16 c0,.int .u16 c1,.int .u16 c2]] (.agg #[.string y1,.string y2,.string y3,.string y4,.string y5,.string y6])))
  (ON:Hid (J5 w 18 #[.int .i64 1,.int .i64 1] (.agg #[.string q1,.string q2])))
  (RM:Hid (∀ W,Below w.heap.size w W→Calls Tryz.prog 15 #[.int .i64 (1+n%4),.agg #[.string x1,.string x2,.string x3,.string x4,.string x5,.string x6],.agg #[.string y1,.string y2,.string y3,.string y4,.string y5,.string y6],.agg #[.string q1,.string q2]] W (fun e w'=>Below W.heap.size W w'∧∃ pa l ca,e= .returned (.tuple #[.slice pa l ca,.int .i64 er])∧bO w' (.slice pa l ca) R)))
  (WF:Hid (J5 w 19 #[.agg #[.string s,.string t]] (.agg #[.string f1,.string f2])))
  (WT:Hid (J5 w 12 #[.agg #[.int .u16 t0,.int .u16 t1,.int .u16 t2]] (.agg #[.string u1,.string u2,.string u3,.string u4,.string u5,.string u6])))
  (WZ:Hid (J5 w 11 #[.agg #[.int .u8 bk,.string s,.string t],.agg #[.string u1,.string u2,.string u3,.string u4,.string u5,.string u6]] (.agg #[.string z1,.string z2,.string z3,.string z4,.string z5,.string z6])))
  (BO:Hid (∀ m,pQ m→Both w m (.agg #[.string u1,.string u2,.string u3,.string u4,.string u5,.string u6])∧Both w m (.agg #[.string z1,.string z2,.string z3,.string z4,.string z5,.string z6]))) :
  Calls Tryz.prog 4 #[.agg #[.int .u8 r,.int .u8 c,.slice al ll cl],.int .u8 n,.agg #[.int .u16 a0,.int .u16 a1,.int .u16 a2],.agg #[.int .u16 c0,.int .u16 c1,.int .u16 c2],.agg #[.int .u16 t0,.int .u16 t1,.int .u16 t2],.agg #[.int .u8 bk,.string s,.string t]] w (fun e w'=>e= .returned (.bool true)∧Below w.heap.size w w'):=by
 obtain ⟨i0,hi,hz0,hz1,hz2⟩:=info_parts ny
 obtain ⟨i1,hi',hy0,hy1,hy2⟩:=info_parts uE
 have h1:n.tmod 4=n%4:=Int.tmod_eq_emod_of_nonneg hn.1
 have h2:IntKind.u8.wrap (n%4)=n%4:=by unfold IntKind.wrap;simp [IntKind.bits,IntKind.signed];omega
 have h3:IntKind.i64.wrap (n%4)=n%4:=by unfold IntKind.wrap;simp [IntKind.bits,IntKind.signed];omega
 have h4:IntKind.i64.wrap (1+n%4)=1+n%4:=by unfold IntKind.wrap;simp [IntKind.bits,IntKind.signed];omega
 have Cm:=zh hM
 have HMR:=zh hMm
 have HFM:=zh FM
 have wD:=zh FR
 clear hn hM hMm FM FR
 go_enter Tryz.func4,Tryz.ntmps4
 go_wp2_with fail
 obtain ⟨cO,EW,hz,X1,X2,X3,X4,X5⟩:=al5 w #[.int .u8 r,.int .u8 c,.slice al ll cl] 53 #[.int .u16 a0,.int .u16 a1,.int .u16 a2] 24 #[.int .u16 c0,.int .u16 c1,.int .u16 c2] 24 #[.int .u16 t0,.int .u16 t1,.int .u16 t2] 24 #[.int .u8 bk,.string s,.string t] 28
 rw [EW]
 have hk2:=Bt (Below.refl _ _) hz
 clear EW hz
 refine (WO.out _ hk2).mono ?_
 rintro e iN ⟨rfl,hb3⟩
 replace X1:=X1.bl hb3
 replace X2:=X2.bl hb3
 replace X3:=X3.bl hb3
 replace X4:=X4.bl hb3
 replace X5:=X5.bl hb3
 have hk5:=Bt hk2 hb3
 clear hk2
 clear hb3
 obtain ⟨dW,dU,fG⟩:=X1.dx
 go_wp2_with fail
 clear dW dU fG
 refine (MD.out _ hk5).mono ?_
 rintro e fQ ⟨v,rfl,hb6,hm⟩
 obtain ⟨paM,caM,rfl, -⟩:=bO.read hm
 rw [Cm.out] at hm ⊢
 replace X1:=X1.bl hb6
 replace X2:=X2.bl hb6
 replace X3:=X3.bl hb6
 replace X4:=X4.bl hb6
 replace X5:=X5.bl hb6
 have jW:=Bt hk5 hb6
 clear hk5
 have NM:=zh hm
 clear hb6 hm
 go_wp2_with fail
 obtain ⟨dV,dS,gM⟩:=X2.dx
 obtain ⟨mF,mD,pz⟩:=X3.dx
 refine aC [(.pure,0),(.pure,1),(.pure,2),(.pure,3),(.read,4),(.read,6),(.ext,5),(.ext,7),(.ext,8),(.ext,9),(.pure,10),(.pure,11),(.pure,12),(.fin,13),(.fin,14)] zk zk zR zP ?_
 repeat (first|(refine ah rfl rfl fun J h=>?_;go_simp;refine h _ ?_;clear h J)|(refine au rfl rfl rfl rfl fun J h=>?_;go_simp;refine h _ ?_;clear h J;try go_simp))
 refine aD rfl rfl (fun oU gQ J hJ=>?_);go_simp
 have gI:Below fQ.heap.size fQ oU:=aA
 clear gQ
 refine (WX.out _ (Bt jW gI)).mono ?_
 rintro e dN ⟨rfl,dh⟩
 refine hJ _ _ dh ?_
 clear hJ J
 have fF:=Bt gI dh
 clear gI dh
 repeat (first|(refine ah rfl rfl fun J h=>?_;go_simp;refine h _ ?_;clear h J)|(refine au rfl rfl rfl rfl fun J h=>?_;go_simp;refine h _ ?_;clear h J;try go_simp))
 refine aD rfl rfl (fun oN eZ J hJ=>?_);go_simp
 have hh12:Below fQ.heap.size fQ oN:=Bt fF aA
 clear eZ fF
 refine (WY.out _ (Bt jW hh12)).mono ?_
 rintro e iR ⟨rfl,fA⟩
 refine hJ _ _ fA ?_
 clear hJ J
 have mR:=Bt hh12 fA
 clear hh12 fA
 repeat (first|(refine ah rfl rfl fun J h=>?_;go_simp;refine h _ ?_;clear h J)|(refine au rfl rfl rfl rfl fun J h=>?_;go_simp;refine h _ ?_;clear h J;try go_simp))
 refine aD rfl rfl (fun r9 uV J hJ=>?_);go_simp
 have vS:Below fQ.heap.size fQ r9:=Bt mR aA
 clear uV mR
 refine (ON.out _ (Bt jW vS)).mono ?_
 rintro e kW ⟨rfl,iZ⟩
 refine hJ _ _ iZ ?_
 clear hJ J
 have oC:=Bt vS iZ
 clear vS iZ
 repeat (first|(refine ah rfl rfl fun J h=>?_;go_simp;refine h _ ?_;clear h J)|(refine au rfl rfl rfl rfl fun J h=>?_;go_simp;refine h _ ?_;clear h J;try go_simp))
 refine aD rfl rfl (fun nY mU J hJ=>?_);go_simp
 have oO:Below fQ.heap.size fQ nY:=Bt oC aA
 clear mU oC
 refine (RM.out _ (Bt jW oO)).mono ?_
 rintro e jZ ⟨iO,Rz,lR,Uf,rfl,hm⟩
 refine hJ _ _ iO ?_
 clear hJ J
 have pY:=Bt oO iO
 have NR:=zh hm
 clear oO iO hm
 repeat (first|(refine ah rfl rfl fun J h=>?_;go_simp;refine h _ ?_;clear h J)|(refine au rfl rfl rfl rfl fun J h=>?_;go_simp;refine h _ ?_;clear h J;try go_simp))
 refine aJ [_,_] rfl (fun mI zG=>?_)
 replace NR:=zh (NR.out.later (show Below jZ.heap.size jZ mI from aA))
 have jg:Below fQ.heap.size fQ mI:=Bt pY aA
 clear zG pY
 clear dV dS gM mF mD pz
 clear X1
 replace X2:=X2.bl jg
 replace X3:=X3.bl jg
 replace X4:=X4.bl jg
 replace X5:=X5.bl jg
 replace NM:=zh (NM.out.later jg)
 have IW:=Bt jW jg
 clear jW
 clear jg
 have HK0:=zh IW
 obtain ⟨wl,Ewl⟩:∃ y,y=mI:=⟨_,rfl⟩
 subst Ewl
 go_wp2_with fail
 go_loopw [16,46] (fun bv iv wr=>∃ k:Nat,iv= .int .i64 (k:Int)∧k≤nn∧Hid (aX wr wl.heap.size 56 1 (Gy wl.heap.size mm) bv (List.replicate k ()))∧Below wl.heap.size wl wr) (fun _ iv _=>nn - (intOf iv).toNat)
 case atStart=>exact ⟨0,rfl,by omega,zh (aX.nil _ _ _ _ _),Below.refl _ _⟩
 case round =>
  obtain ⟨k,rfl,hk,HG,hb⟩:=hrel
  obtain ⟨bv,cv,rfl⟩:=HG.out.at (n:=k) zi
  rcases Nat.lt_or_ge k nn with hlt|hge
  ·obtain ⟨p0,cp0,e0, -, -, hat⟩:=bO.read (NM.out.later hb)
   rw [Cm.out] at e0
   simp only [Value.slice.injEq,true_and] at e0
   obtain ⟨rfl,rfl⟩:=e0
   have hkM:k<M.length:=by rw [Cm.out];exact hlt
   obtain ⟨b,off,a',c',rfl,lb,k0,kf⟩:=hat k hkM
   have hl:=HMR.out _ (List.getElem_mem hkM)
   rw [hl] at k0 kf
   obtain ⟨-, b2,off2,rfl,FV, -⟩:=adapt.jI.cells kf zo
   obtain ⟨cs,s1,s2,s3⟩:=jI.src kf
   have FT:Hid (∀ x∈M[k],Fits x):=zh (HFM.out _ (List.getElem_mem hkM))
   have HL:=zh hl
   have S1:=zh s1
   have S2:=zh s2
   have S3:=zh s3
   generalize M[k]=row at *
   have HB:=zh hb
   clear kf s1 s2 s3 hl hat hb hkM
   go_wp2_with (at_builtin;refine kG (w0:=wr) rfl (.tmp 51) (.tmp 52) 56 rfl 36 i0 (.agg #[.string ⟨#[]⟩,.string ⟨#[]⟩]) 2 32 Tryz.underlying56 hi hz0 hz1 hz2 rfl zd rM _ [] rfl ⟨[],World.ownsRow_lit wr #[] 0 (Nat.le_refl _) (by unfold maxLen;omega) rfl,jl.nil⟩ aA ⟨b2,off2,none⟩ mm c' row cs HL.out rfl (S1.out.mono fun _ _ h=>h) (fun j u hu=>(Below.cell (show Below wr.heap.size wr _ from aA) (p:=(⟨b2,off2,none⟩:Addr).add j) (by rw [Addr.add_lit];exact FV)).trans (S2.out j u hu)) S3.out (rM.stay _) ?c2 zo ?_)
   case c2=>simp;omega
   intro v1 w2 hg1 hb2 hk2
   try rw [List.nil_append] at hg1
   have ho:=iW.of hg1 (by rw [HL.out];omega) FT.out
   rw [HL.out] at ho
   replace ho:=ho.le HB.out.size
   obtain ⟨g,cg,arr,rfl, -⟩:=id ho
   have HO:=zh ho
   have HB2:=zh (Bt HB.out hb2)
   replace HG:=zh (HG.out.later hb2 (Gy.stay zi))
   clear hg1 hb2 hk2 ho
   go_wp2_with (at_builtin;refine bN (w0:=wl) rfl (.tmp 50) (.tmp 54) 44 rfl 56 i1 (.slice none 0 0) 1 24 Tryz.underlying44 hi' hy0 hy1 hy2 rfl zd (Gy wl.heap.size mm) _ (List.replicate k ()) rfl (HG.out.later aA (Gy.stay zi)) (Bt HB2.out aA) _ [.slice (some ⟨g,0,none⟩) mm cg] () rfl (aB.new _ _ _) rfl ?c1 ⟨_,rfl,HO.out.later aA⟩ (Gy.stay zi) ?c2 zo ?_)
   case c1=>intro u hu;simp only [List.mem_cons,List.not_mem_nil,or_false] at hu;rcases hu with rfl;rfl
   case c2=>simp;omega
   intro v' w3 hg hb3 _
   have HG2:Hid (aX w3 wl.heap.size 56 1 (Gy wl.heap.size mm) v' (List.replicate (k+1) ())):=zh (by rw [List.replicate_succ'];exact hg)
   clear hg HG HO
   go_wp2_with fail
   go_roundw
   case rel=>exact ⟨k+1,by go_num,by omega,HG2,hb3⟩
   case measure=>exact zM
  ·obtain rfl:k=nn:=by omega
   have hw:=Ce.of HG.out zo
   obtain ⟨gb,cb,ab,e, -, -, hbx,hrow⟩:=id hw
   simp only [Value.slice.injEq,true_and] at e
   obtain ⟨rfl,rfl⟩:=e
   obtain ⟨x,ex,g0,cg,arr,rfl,hN, -, -, hb0,hst⟩:=hrow 0 zo
   obtain ⟨o0,i00, -⟩:=hst 0 zo
   obtain ⟨o1,i01, -⟩:=hst 1 zo
   have E0:=zh i00
   have E1:=zh i01
   clear hst i00 i01
   have k0:wr.cell? ⟨gb,0,none⟩=some (.slice (some ⟨g0,0,none⟩) mm cg):=(hbx.cell 0).trans ex
   have l0:=hbx.lt
   have g1:decide ((0:Int)<(k:Int))=true:=by simp;omega
   have g2:decide ((0:Int)<(mm:Int))=true:=by simp;omega
   have hx5:=X5.out.later hb
   have zS:=hx5.cell
   have zD:=hx5.lt
   have HW:=zh hw
   have HN:=zh hN
   have HB0:=zh hb0
   have HB:=zh hb
   have HKr:=zh (Bt HK0.out hb)
   clear hw hrow hbx hb0 hN ex hb HG
   go_wp2_with fail
   refine aC [(.pure,0),(.pure,1),(.read,2),(.pure,3),(.read,4),(.ext,5),(.pure,6),(.fin,7)] zk zk zR zP ?_
   repeat (first|(refine ah rfl rfl fun J h=>?_;go_simp;refine h _ ?_;clear h J)|(refine au rfl rfl rfl rfl fun J h=>?_;go_simp;refine h _ ?_;clear h J;try go_simp))
   refine aD rfl rfl (fun we hbe J hJ=>?_);go_simp
   have hh:Below wr.heap.size wr we:=aA
   refine (WF.out _ (Bt HKr.out hh)).mono ?_
   rintro e wc ⟨rfl,hbc⟩
   refine hJ _ _ hbc ?_
   clear hJ J
   have hi2:=Bt hh hbc
   clear hh hbe hbc
   repeat (first|(refine ah rfl rfl fun J h=>?_;go_simp;refine h _ ?_;clear h J)|(refine au rfl rfl rfl rfl fun J h=>?_;go_simp;refine h _ ?_;clear h J;try go_simp))
   refine aJ [_] rfl (fun wf hbf=>?_)
   have hj:Below wr.heap.size wr wf:=Bt hi2 aA
   clear hi2 hbf zS zD hx5 k0 l0
   have hb0:=HB0.out.later hj
   have cg0:=hb0.cell
   have lg0:=hb0.lt
   have fg0:=hb0.free
   have e0:=E0.out
   have e1:=E1.out
   go_upto_region 13 with fail
   clear e0 e1 E0 E1
   have hq:Below wl.heap.size wl ((wf.setCell ⟨g0,0,none⟩ (.string f1)).setCell ⟨g0,1,none⟩ (.string f2)):=Below.setCell (Below.setCell (Bt HB.out hj) HN.out _) HN.out _
   have hw2:=((HW.out.later hj).set hb0 0 f1 zo).set (hb0.set 0 _) 1 f2 zo
   obtain ⟨ws,EW⟩:∃ y,(wf.setCell ⟨g0,0,none⟩ (.string f1)).setCell ⟨g0,1,none⟩ (.string f2)=y:=⟨_,rfl⟩
   rw [EW] at hq hw2 ⊢
   obtain ⟨B,hB,FB⟩:=hw2.mat
   have Xr:=zh (NM.out.later hq)
   have QS:=zh (NR.out.later hq)
   have MG:=zh hB
   have UA:Hid (bO ws (.slice none 0 0) []):=zh ⟨[],Row.nil _ _,rfl,fun i h=>by cases h⟩
   have HFB:=zh FB
   have HF0:Hid (pQ []):=zh fun r hr=>by cases hr
   replace X4:=X4.bl hq
   replace X5:=X5.bl hq
   have HK:=zh (Bt HK0.out hq)
   clear EW hb0 cg0 lg0 fg0 hj hq hw2 hB FB NM NR HB0 HB HKr HW HN HK0 WO MD WX WY ON RM WF g1 g2
   go_wp2_with fail
   go_loopw [78] (fun iv wr=>∃ k:Nat,iv= .int .i64 (k:Int)∧k≤4∧Below ws.heap.size ws wr) (fun iv _=>4 - (intOf iv).toNat)
   case atStart=>exact ⟨0,rfl,by omega,Below.refl _ _⟩
   case round =>
    obtain ⟨j,rfl,hj,hb⟩:=hrel
    rcases Nat.lt_or_ge j 4 with hlt|hge
    ·rcases (by omega:j=0∨j=1∨j=2∨j=3) with rfl|rfl|rfl|rfl
     ·have hix:∀ W:World,(Instr.index 57 (.agg #[.slice paM k caM,.slice Rz lR Uf,.slice (some ⟨gb,0,none⟩) k cv,.slice none 0 0]) (.int .i64 0)).run Tryz.prog W= .ok (.slice paM k caM) W:=fun W=>by kernel_rfl
      have HMX:=Xr
      have pO:=zh (BO.out _ HFM.out)
      exact zcO
     ·have hix:∀ W:World,(Instr.index 57 (.agg #[.slice paM k caM,.slice Rz lR Uf,.slice (some ⟨gb,0,none⟩) k cv,.slice none 0 0]) (.int .i64 1)).run Tryz.prog W= .ok (.slice Rz lR Uf) W:=fun W=>by kernel_rfl
      have HMX:=QS
      have pO:=zh (BO.out _ wD.out)
      exact zcO
     ·have hix:∀ W:World,(Instr.index 57 (.agg #[.slice paM k caM,.slice Rz lR Uf,.slice (some ⟨gb,0,none⟩) k cv,.slice none 0 0]) (.int .i64 2)).run Tryz.prog W= .ok (.slice (some ⟨gb,0,none⟩) k cv) W:=fun W=>by kernel_rfl
      have HMX:=MG
      have pO:=zh (BO.out _ HFB.out)
      exact zcO
     ·have hix:∀ W:World,(Instr.index 57 (.agg #[.slice paM k caM,.slice Rz lR Uf,.slice (some ⟨gb,0,none⟩) k cv,.slice none 0 0]) (.int .i64 3)).run Tryz.prog W= .ok (.slice none 0 0) W:=fun W=>by kernel_rfl
      have HMX:=UA
      have pO:=zh (BO.out _ HF0.out)
      exact zcO
    ·have hj4:j=4:=by omega
     subst hj4
     have hz:=Bt HK.out hb
     go_wp2_with fail
     go_ret
     exact ⟨rfl,hz⟩
end Go.Proofs.verdigrislaw25
namespace Go.Proofs.aV
open Go Go.RowKit Go.SW Go.Num Go.Mem Go.Proofs Go.Dec Go.dB Go.Proofs.aG Go.Proofs.aI Go.Proofs.aK
theorem inv_eq:∀ m,m<4→bW 3 (adapt.bg m)≠0∧Mi (adapt.bg m) 3=matrix.lS (adapt.bg m):=by decide+kernel
theorem Mq (k:Int) (a b t:light.aY) (d:Fr) (er:Int) (w:World) (he:er≠0) (GA:∀ W,Calls Tryz.prog 39 #[.int .i64 k,a.v,b.v,d.v] W (Cq W er t)) (m:List (List Fr)) :
  Calls Tryz.prog 15 #[.int .i64 k,a.v,b.v,d.v] w (aS w er m):=by
 have GG:=zh GA
 have ne:(er != 0)=true:=bne_iff_ne.2 he
 have HE:=zh he
 obtain ⟨⟨a1,a2⟩,⟨a3,a4⟩,⟨a5,a6⟩⟩:=a
 obtain ⟨⟨b1,b2⟩,⟨b3,b4⟩,⟨b5,b6⟩⟩:=b
 obtain ⟨⟨t1,t2⟩,⟨t3,t4⟩,⟨t5,t6⟩⟩:=t
 obtain ⟨d1,d2⟩:=d
 unfold Cq light.aY.v light.aY.cells Fr.v at GG
 unfold light.aY.v light.aY.cells Fr.v
 clear GA he
 go_enter Tryz.func15,Tryz.ntmps15
 go_wp2_with fail
 refine (GG.out _).mono ?_
 rintro e w1 ⟨rfl,hb⟩
 have HB:=zh (show Below w.heap.size w w1 from Bt aA hb)
 clear hb
 go_wp2_with fail
 go_ret2
 have hb:=HB.out
 exact aS.no aA HE.out
theorem Ml (m:Nat) (hm:m<4) (a b:light.aY) (d:Fr) (g:Nat→Rat) (hg:adapt.dL g=true) (w:World) (GA:∀ W,Calls Tryz.prog 39 #[.int .i64 ((m:Int)+1),a.v,b.v,d.v] W (Cq W 0 (adapt.bH g)))
  (hs:matrix.gX (matrix.iY (matrix.lS (adapt.bg m)) (adapt.jK g) 3)=true) :
  Calls Tryz.prog 15 #[.int .i64 ((m:Int)+1),a.v,b.v,d.v] w (aS w (if matrix.gX (matrix.iY (matrix.iY (matrix.lS (adapt.bg m)) (adapt.jK g) 3) (adapt.bg m) 3) then 0 else 6) (matrix.iY (matrix.iY (matrix.lS (adapt.bg m)) (adapt.jK g) 3) (adapt.bg m) 3).fr):=by
 have GG:=zh GA
 have okC:=adapt.tC m hm
 have okI:=adapt.Sq m hm
 have okD:=adapt.Jc g hg
 have lC:(adapt.bg m).length=3:=rfl
 have lI:(matrix.lS (adapt.bg m)).length=3:=rfl
 have lD:(adapt.jK g).length=3:=rfl
 have CO:=zh (fun W=>uN m hm W)
 have IV:=zh (fun v W h=>aI.MC v (adapt.bg m) 3 W h okC lC (inv_eq m hm).1)
 rw [(inv_eq m hm).2,if_pos (adapt.inv0 m hm).2] at IV
 have hfl:∀ x∈(adapt.bH g).list,Fits x:=by
  have h:=hg
  unfold adapt.dL at h
  simp only [Bool.and_eq_true] at h
  intro x hx
  simp only [light.aY.list,adapt.bH,List.mem_cons,List.not_mem_nil,or_false] at hx
  rcases hx with rfl|rfl|rfl
  ·exact eY h.1.1
  ·exact eY h.1.2
  ·exact eY h.2
 have hol:K6 (adapt.bH g).list=true:=by
  have h:=hg
  unfold adapt.dL at h
  simp only [Bool.and_eq_true] at h
  show K6 [Fr.of (g 0),Fr.of (g 1),Fr.of (g 2)]=true
  simp [K6,iX h.1.1,iX h.1.2,iX h.2]
 have DG:=zh (fun v W (h:jI W 36 v (adapt.bH g).list)=>aI.uf v (adapt.bH g).list 36 W h (by show 1≤3;omega) (by show 3≤4;omega) hol hfl)
 rw [adapt.Jd g] at DG
 have M1:=zh (fun va vb W h1 h2=>aI.tV va vb (matrix.lS (adapt.bg m)) (adapt.jK g) 3 W h1 h2 (by rw [lD];exact okI) okD)
 rw [if_pos hs] at M1
 have okS:(matrix.iY (matrix.lS (adapt.bg m)) (adapt.jK g) 3).ok 3:=adapt.Nb (by rw [lI];omega) (by rw [lI];omega) zo zo hs
 have M2:=zh (fun va vb W h1 h2=>aI.tV va vb (matrix.iY (matrix.lS (adapt.bg m)) (adapt.jK g) 3) (adapt.bg m) 3 W h1 h2 (by rw [lC];exact okS) okC)
 generalize (if matrix.gX (matrix.iY (matrix.iY (matrix.lS (adapt.bg m)) (adapt.jK g) 3) (adapt.bg m) 3) then (0:Int) else 6)=er at *
 generalize (matrix.iY (matrix.iY (matrix.lS (adapt.bg m)) (adapt.jK g) 3) (adapt.bg m) 3).fr=RR at *
 generalize (matrix.iY (matrix.lS (adapt.bg m)) (adapt.jK g) 3).fr=SS at *
 generalize (matrix.lS (adapt.bg m)).fr=II at *
 generalize (adapt.jK g).fr=DD at *
 generalize (adapt.bg m).fr=CC at *
 clear hol hfl okC okI okD okS lC lI lD hs hg GA hm
 generalize (m:Int)+1=k at *
 obtain ⟨⟨a1,a2⟩,⟨a3,a4⟩,⟨a5,a6⟩⟩:=a
 obtain ⟨⟨b1,b2⟩,⟨b3,b4⟩,⟨b5,b6⟩⟩:=b
 obtain ⟨⟨⟨t1,t2⟩,⟨t3,t4⟩,⟨t5,t6⟩⟩,ET⟩:∃ y,adapt.bH g=y:=⟨_,rfl⟩
 rw [ET] at GG DG
 clear ET
 obtain ⟨d1,d2⟩:=d
 unfold Cq light.aY.v light.aY.cells Fr.v at GG
 unfold light.aY.v light.aY.cells Fr.v
 go_enter Tryz.func15,Tryz.ntmps15
 go_wp2_with fail
 refine (GG.out _).mono ?_
 rintro e w1 ⟨rfl,hb⟩
 have hb1:Below w.heap.size w w1:=Bt aA hb
 have hbx:Below w1.heap.size w1 (w1.alloc (.cells #[.string t1,.string t2,.string t3,.string t4,.string t5,.string t6] 37)):=aA
 have hx:=aB.new w1 #[.string t1,.string t2,.string t3,.string t4,.string t5,.string t6] 37
 have HB1:=zh hb1
 clear hb hb1
 go_wp2_with fail
 have HB2:=zh (Bt HB1.out hbx)
 refine (CO.out _).mono ?_
 rintro e w2 ⟨hb2,v,rfl,hc, -⟩
 replace hc:=hc rfl
 obtain ⟨pc,lc,cc,rfl⟩:=oL hc
 have HC:=zh hc
 have HX:=zh (hx.later hb2)
 have HB3:=zh (Bt HB2.out hb2)
 clear hc hx hb2 hbx HB1 HB2
 go_wp2_with fail
 refine (IV.out _ _ HC.out).mono ?_
 rintro e w3 ⟨hb3,v,rfl,hi, -⟩
 replace hi:=hi rfl
 obtain ⟨pi',li,ci,rfl⟩:=oL hi
 have HI:=zh hi
 replace HX:=zh (HX.out.later hb3)
 replace HC:=zh (HC.out.later hb3)
 replace HB3:=zh (Bt HB3.out hb3)
 clear hi hb3
 have cx:=HX.out.cell
 have lx:=HX.out.lt
 generalize w1.heap.size=p at *
 go_wp2_with fail
 have hbx:Below w3.heap.size w3 (w3.alloc (.cells #[.string t1,.string t2,.string t3,.string t4,.string t5,.string t6] 36)):=aA
 refine (DG.out _ _ (light.aY.zL (t:=⟨⟨t1,t2⟩,⟨t3,t4⟩,⟨t5,t6⟩⟩) (aB.new _ _ _))).mono ?_
 rintro e w4 ⟨hb4,v,rfl,hd, -⟩
 replace hd:=hd rfl
 obtain ⟨pd,ld,cd,rfl⟩:=oL hd
 have HD:=zh hd
 have z:=Bt hbx hb4
 replace HI:=zh (HI.out.later z)
 replace HC:=zh (HC.out.later z)
 replace HB3:=zh (Bt HB3.out z)
 clear hd hb4 hbx z cx lx HX
 go_wp2_with fail
 refine (M1.out _ _ _ HI.out HD.out).mono ?_
 rintro e w5 ⟨hb5,v,rfl,hp, -⟩
 replace hp:=hp rfl
 obtain ⟨pp,lp,cp,rfl⟩:=oL hp
 have HP:=zh hp
 replace HC:=zh (HC.out.later hb5)
 replace HB3:=zh (Bt HB3.out hb5)
 clear hp hb5
 go_wp2_with fail
 refine (M2.out _ _ _ HP.out HC.out).mono ?_
 rintro e w6 ⟨hb6,v,rfl,y1,y2⟩
 have HQ:Hid (aS w er RR (.returned (.tuple #[v,.int .i64 er])) w6):=zh ⟨Bt HB3.out hb6,v,rfl,y1,y2⟩
 clear y1 y2 hb6
 go_wp2_with fail
 go_ret2
 exact HQ.out
def Ul (a:light.aY):Prop:=zA a∧(light.jG a=0→∃ s,a=adapt.bH s∧adapt.Sd s)
theorem Je {f g:Nat→Rat} (h:∀ i,i<3→f i=g i):adapt.jK f=adapt.jK g:=by
 unfold adapt.jK
 refine List.map_congr_left fun i hi=>List.map_congr_left fun j hj=>?_
 rw [h i (List.mem_range.1 hi)]
theorem Qm (m:Nat) (hm:m<4) (a b:light.aY) (ta:Ul a) (tb:Ul b) (h1:light.jG a=0) (h2:light.jG b=0) (q:Rat) (q0:0≤q) (q1:q≤1) (hq:adapt.Ht 10 q) (w:World) :
  Calls Tryz.prog 15 #[.int .i64 ((m:Int)+1),a.v,b.v,(Fr.of q).v] w (aS w (adapt.yu ((m:Int)+1) a b (Fr.of q)) (adapt.pX ((m:Int)+1) a b (Fr.of q)).fr):=by
 obtain ⟨s,rfl,ss⟩:=ta.2 h1
 obtain ⟨t,rfl,st⟩:=tb.2 h2
 obtain ⟨e1,e2,e3⟩:=adapt.VL hm ss st h1 h2 hq q0 q1
 have hP:∀ i,i<3→adapt.fC (adapt.bg m) s i=adapt.resp m s i:=fun i hi=>adapt.Fy (adapt.kS m) s i hi
 have hR:∀ i,i<3→adapt.fC (adapt.bg m) t i=adapt.resp m t i:=fun i hi=>adapt.Fy (adapt.kS m) t i hi
 have hz:adapt.fH (adapt.fC (adapt.bg m) s)=adapt.fH (adapt.resp m s):=adapt.yQ hP
 have G:=fun W=>MJ m hm s t q W (adapt.rH ss.ok) (adapt.rH st.ok) h1 h2 q0 q1 hq _ _ rfl rfl
  (adapt.rH fun i hi=>by rw [hP i hi];exact (ss.rh hm hi).ok zo) (adapt.rH fun i hi=>by rw [hR i hi];exact (st.rh hm hi).ok zo)
  (fun _ i hi=>by rw [hP i hi,hR i hi];exact ss.gok hm st hq hi)
 rw [hz] at G
 rw [e1]
 cases hzz:adapt.fH (adapt.resp m s) with
 | true =>
  rw [hzz] at G
  exact Mq _ _ _ noT (Fr.of q) 7 w zo G _
 | false =>
  rw [hzz] at G
  have hg:∀ i,i<3→adapt.jR q (adapt.fC (adapt.bg m) s i) (adapt.fC (adapt.bg m) t i)=adapt.iJ ((m:Int)+1) (adapt.bH s) (adapt.bH t) (Fr.of q) i:=fun i hi=>by
   rw [adapt.vT ss st hq i hi,hP i hi,hR i hi]
   rfl
  have hd:=Je hg
  have hs:adapt.mo ((m:Int)+1) (adapt.bH s) (adapt.bH t) (Fr.of q)=matrix.iY (matrix.lS (adapt.bg m)) (adapt.jK fun i=>adapt.jR q (adapt.fC (adapt.bg m) s i) (adapt.fC (adapt.bg m) t i)) 3:=by
   unfold adapt.mo
   rw [show ((m:Int)+1 - 1).toNat=m by omega,hd]
  have hr:adapt.pX ((m:Int)+1) (adapt.bH s) (adapt.bH t) (Fr.of q)=matrix.iY (matrix.iY (matrix.lS (adapt.bg m)) (adapt.jK fun i=>adapt.jR q (adapt.fC (adapt.bg m) s i) (adapt.fC (adapt.bg m) t i)) 3) (adapt.bg m) 3:=by
   unfold adapt.pX
   rw [hs,show ((m:Int)+1 - 1).toNat=m by omega]
  have y:=Ml m hm (adapt.bH s) (adapt.bH t) (Fr.of q) (fun i=>adapt.jR q (adapt.fC (adapt.bg m) s i) (adapt.fC (adapt.bg m) t i))
   (adapt.rH fun i hi=>by rw [hg i hi,adapt.vT ss st hq i hi];exact (ss.gh hm st hq hi).ok zo) w G (by rw [← hs];exact e2)
  rw [← hr,if_pos e3] at y
  exact y
end Go.Proofs.aV
namespace Go.Proofs.aK
open Go Go.RowKit Go.SW Go.Num Go.Mem Go.Proofs Go.Dec Go.dB
theorem VE {q:Rat} (h1:q.num.natAbs≤65535) (h2:q.den≤65535):dA q=true:=by
 have ht:65535<gK 600:=by
  unfold gK
  have:=Nat.pow_le_pow_right (n:=10) zo (show 5≤600 by omega)
  omega
 unfold dA JY
 rw [Bool.and_eq_true]
 exact ⟨decide_eq_true zo,decide_eq_true zo⟩
theorem K7 {n:Int} (h1:0≤n) (h2:n≤65535) (w:World):Calls Tryz.prog 18 #[.int .i64 n,.int .i64 1000] w (fun e w'=>e= .returned (Fr.of (verdigrislaw25.q2 n 1000)).v∧Below w.heap.size w w'):=by
 have h:=vC n 1000 zo zo zo zo w
 have e:(zY n 1000).1=Fr.of (verdigrislaw25.q2 n 1000):=by
  unfold zY wr verdigrislaw25.q2
  rw [if_neg zo]
  have hk:dA ((n:Rat) / (1000:Int))=true:=by
   obtain ⟨l1,l2⟩:=aG.yx (n:=n) (d:=1000) zo
   exact VE zo zo
  rw [if_pos hk]
 rw [e] at h
 exact h
theorem ag5 (a b c:Int) (ha:0≤a∧a≤65535) (hb:0≤b∧b≤65535) (hc:0≤c∧c≤65535) (w:World) :
  Calls Tryz.prog 12 #[.agg #[.int .u16 a,.int .u16 b,.int .u16 c]] w (fun e w'=>e= .returned (verdigrislaw25.tq a b c 1000).v∧Below w.heap.size w w'):=by
 have H1:=zh (fun W=>K7 (n:=a) zo zo W)
 have H2:=zh (fun W=>K7 (n:=b) zo zo W)
 have H3:=zh (fun W=>K7 (n:=c) zo zo W)
 have W0:∀ z:Int,0≤z∧z≤65535→IntKind.i64.wrap z=z:=fun z h=>by unfold IntKind.wrap;simp [IntKind.bits];omega
 have wa:=W0 a ha
 have wb:=W0 b hb
 have wc:=W0 c hc
 obtain ⟨⟨⟨s1,t1⟩,⟨s2,t2⟩,⟨s3,t3⟩⟩,E⟩:∃ y,verdigrislaw25.tq a b c 1000=y:=⟨_,rfl⟩
 rw [E]
 unfold verdigrislaw25.tq at E
 injection E with E1 E2 E3
 rw [E1] at H1
 rw [E2] at H2
 rw [E3] at H3
 unfold Fr.v at H1 H2 H3
 clear E1 E2 E3 ha hb hc W0
 go_enter Tryz.func12,Tryz.ntmps12
 go_wp2_with fail
 obtain ⟨cO,EW,hz,X1,X2⟩:=zU w #[.int .u16 a,.int .u16 b,.int .u16 c] 24 #[.string ⟨#[]⟩,.string ⟨#[]⟩,.string ⟨#[]⟩,.string ⟨#[]⟩,.string ⟨#[]⟩,.string ⟨#[]⟩] 38
 rw [EW]
 have hk2:=Bt (Below.refl _ _) hz
 clear EW hz
 obtain ⟨dW,dU,fG⟩:=X1.dx
 refine aC [(.pure,0),(.read,1),(.pure,2),(.pure,4),(.read,5),(.pure,6),(.pure,8),(.read,9),(.pure,10),(.ext,3),(.ext,7),(.ext,11),(.pure,12),(.fin,13)] zk zk zR zP ?_
 repeat (first|(refine ah rfl rfl fun J h=>?_;go_simp;refine h _ ?_;clear h J)|(refine au rfl rfl rfl rfl fun J h=>?_;go_simp;refine h _ ?_;clear h J;try go_simp))
 refine aD rfl rfl (fun uO hb3 J hJ=>?_);go_simp
 have hh3:Below cO.heap.size cO uO:=aA
 clear hb3
 refine (H1.out _).mono ?_
 rintro e rT ⟨rfl,hb4⟩
 refine hJ _ _ hb4 ?_
 clear hJ J
 have nG:=Bt hh3 hb4
 clear hh3 hb4
 repeat (first|(refine ah rfl rfl fun J h=>?_;go_simp;refine h _ ?_;clear h J)|(refine au rfl rfl rfl rfl fun J h=>?_;go_simp;refine h _ ?_;clear h J;try go_simp))
 refine aD rfl rfl (fun qQ hb6 J hJ=>?_);go_simp
 have ig:Below cO.heap.size cO qQ:=Bt nG aA
 clear hb6 nG
 refine (H2.out _).mono ?_
 rintro e kC ⟨rfl,dY⟩
 refine hJ _ _ dY ?_
 clear hJ J
 have o9:=Bt ig dY
 clear ig dY
 repeat (first|(refine ah rfl rfl fun J h=>?_;go_simp;refine h _ ?_;clear h J)|(refine au rfl rfl rfl rfl fun J h=>?_;go_simp;refine h _ ?_;clear h J;try go_simp))
 refine aD rfl rfl (fun oU gQ J hJ=>?_);go_simp
 have gI:Below cO.heap.size cO oU:=Bt o9 aA
 clear gQ o9
 refine (H3.out _).mono ?_
 rintro e dN ⟨rfl,dh⟩
 refine hJ _ _ dh ?_
 clear hJ J
 have fF:=Bt gI dh
 clear gI dh
 repeat (first|(refine ah rfl rfl fun J h=>?_;go_simp;refine h _ ?_;clear h J)|(refine au rfl rfl rfl rfl fun J h=>?_;go_simp;refine h _ ?_;clear h J;try go_simp))
 refine aJ [_] rfl (fun mZ yC=>?_)
 have hh12:Below cO.heap.size cO mZ:=Bt fF aA
 clear yC fF
 clear dW dU fG
 replace X1:=X1.bl hh12
 replace X2:=X2.bl hh12
 have Lj:=Bt hk2 hh12
 clear hk2
 clear hh12
 obtain ⟨dV,dS,gM⟩:=X2.dx
 have hres:=X2.out
 have gW:=hres.cell
 have gV:=hres.free
 go_wp2_with fail
 refine bP rfl rfl aL Tryz.underlying38 rfl zk ?_
 exact ⟨rfl,aA⟩
def kR (s:ByteArray):ByteArray:=s.extract 0 (min (s.size:Int) 20).toNat
theorem rD (s:ByteArray):(kR s).size≤20:=by
 unfold kR
 rw [ByteArray.size_extract]
 omega
theorem Ox (s t:ByteArray) (w:World) :
  Calls Tryz.prog 19 #[.agg #[.string s,.string t]] w (fun e w'=>e= .returned (.agg #[.string (kR s),.string (kR t)])∧Below w.heap.size w w'):=by
 have qs1:0≤min (s.size:Int) 20:=by omega
 have qs2:min (s.size:Int) 20≤s.size:=by omega
 have qt1:0≤min (t.size:Int) 20:=by omega
 have qt2:min (t.size:Int) 20≤t.size:=by omega
 unfold kR
 go_enter Tryz.func19,Tryz.ntmps19
 go_wp2_with fail
 obtain ⟨cO,EW,hz,X1,X2⟩:=zU w #[.string s,.string t] 26 #[.string ⟨#[]⟩,.string ⟨#[]⟩] 36
 rw [EW]
 have hk2:=Bt (Below.refl _ _) hz
 clear EW hz
 obtain ⟨dW,dU,fG⟩:=X1.dx
 refine aC [(.pure,0),(.read,1),(.pure,2),(.read,3),(.pure,4),(.pure,5),(.pure,6),(.pure,7),(.read,8),(.pure,9),(.read,10),(.pure,11),(.pure,12),(.pure,13),(.pure,14),(.fin,15)] zk zk zR zP ?_
 repeat (first|(refine ah rfl rfl fun J h=>?_;go_simp;refine h _ ?_;clear h J)|(refine au rfl rfl rfl rfl fun J h=>?_;go_simp;refine h _ ?_;clear h J;try go_simp))
 refine aJ [_] rfl (fun wf3 hf3=>?_)
 have hh3:Below cO.heap.size cO wf3:=aA
 clear hf3
 clear dW dU fG
 replace X1:=X1.bl hh3
 replace X2:=X2.bl hh3
 have hk4:=Bt hk2 hh3
 clear hk2
 clear hh3
 obtain ⟨dV,dS,gM⟩:=X2.dx
 have hres:=X2.out
 have gW:=hres.cell
 have gV:=hres.free
 go_wp2_with fail
 refine bP rfl rfl aL Tryz.underlying36 rfl zk ?_
 exact ⟨rfl,aA⟩
def Uj (k:Int) (f:Fr) (t:light.aY):light.aY:=if k%3=0 then { t with x:=f } else if k%3=1 then { t with y:=f } else { t with z:=f }
theorem Xy (k:Int) (hk:0≤k∧k≤255) (s t:ByteArray) (s1 t1 s2 t2 s3 t3:ByteArray) (w:World) :
  Calls Tryz.prog 11 #[.agg #[.int .u8 k,.string s,.string t],.agg #[.string s1,.string t1,.string s2,.string t2,.string s3,.string t3]] w
   (fun e w'=>e= .returned (Uj k ⟨kR s,kR t⟩ ⟨⟨s1,t1⟩,⟨s2,t2⟩,⟨s3,t3⟩⟩).v∧Below w.heap.size w w'):=by
 have H1:=zh (fun W=>Ox s t W)
 generalize kR s=u at H1 ⊢
 generalize kR t=v at H1 ⊢
 have hm:k.tmod 3=k%3:=Int.tmod_eq_emod_of_nonneg hk.1
 have hw:∀ z:Int,0≤z∧z≤255→IntKind.u8.wrap z=z:=fun z h=>by unfold IntKind.wrap;simp [IntKind.bits,IntKind.signed];omega
 have hl:k%3=0∨k%3=1∨k%3=2:=by omega
 have hw2:=hw (k%3) zo
 clear hw hk
 unfold Uj
 rcases hl with hl|hl|hl
 ·rw [hl] at hm hw2 ⊢
  clear hl
  go_enter Tryz.func11,Tryz.ntmps11
  go_wp2_with fail
  obtain ⟨cO,EW,hz,X1,X2,X3⟩:=yM w #[.int .u8 k,.string s,.string t] 28 #[.string s1,.string t1,.string s2,.string t2,.string s3,.string t3] 38 #[.string ⟨#[]⟩,.string ⟨#[]⟩,.string ⟨#[]⟩,.string ⟨#[]⟩,.string ⟨#[]⟩,.string ⟨#[]⟩] 38
  rw [EW]
  have hk2:=Bt (Below.refl _ _) hz
  clear EW hz
  obtain ⟨dW,dU,fG⟩:=X1.dx
  refine aC [(.pure,0),(.read,1),(.pure,2),(.pure,3),(.read,4),(.ext,5),(.pure,6),(.fin,7)] zk zk zR zP ?_
  repeat (first|(refine ah rfl rfl fun J h=>?_;go_simp;refine h _ ?_;clear h J)|(refine au rfl rfl rfl rfl fun J h=>?_;go_simp;refine h _ ?_;clear h J;try go_simp))
  refine aD rfl rfl (fun uO hb3 J hJ=>?_);go_simp
  have hh3:Below cO.heap.size cO uO:=aA
  clear hb3
  refine (H1.out _).mono ?_
  rintro e rT ⟨rfl,hb4⟩
  refine hJ _ _ hb4 ?_
  clear hJ J
  have nG:=Bt hh3 hb4
  clear hh3 hb4
  repeat (first|(refine ah rfl rfl fun J h=>?_;go_simp;refine h _ ?_;clear h J)|(refine au rfl rfl rfl rfl fun J h=>?_;go_simp;refine h _ ?_;clear h J;try go_simp))
  refine aJ [_] rfl (fun JX Wo=>?_)
  have ig:Below cO.heap.size cO JX:=Bt nG aA
  clear Wo nG
  clear dW dU fG
  replace X1:=X1.bl ig
  replace X2:=X2.bl ig
  replace X3:=X3.bl ig
  have Cx:=Bt hk2 ig
  clear hk2
  clear ig
  obtain ⟨dV,dS,gM⟩:=X2.dx
  obtain ⟨mF,mD,pz⟩:=X3.dx
  go_upto_region 2 with fail
  clear dV dS gM mF mD pz
  have hz:Below w.heap.size w ((JX.setCell ⟨w.heap.size+1,0,none⟩ (.string u)).setCell ⟨w.heap.size+1,1,none⟩ (.string v)):=aA
  obtain ⟨XA,EW⟩:∃ y,((JX.setCell ⟨w.heap.size+1,0,none⟩ (.string u)).setCell ⟨w.heap.size+1,1,none⟩ (.string v))=y:=⟨_,rfl⟩
  have Kk:=((X2.out.set 0 (.string u)).set 1 (.string v))
  have Kj:=((X3.out.setOther (a:=⟨w.heap.size+1,0,none⟩) (.string u) (by first|assumption|(simp;done)|(simp;omega))).setOther (a:=⟨w.heap.size+1,1,none⟩) (.string v) (by first|assumption|(simp;done)|(simp;omega)))
  clear X1
  rw [EW] at Kk
  replace X2:Hid (aB XA (w.heap.size+1) #[.string u,.string v,.string s2,.string t2,.string s3,.string t3] 38):=zh Kk
  clear Kk
  rw [EW] at Kj
  replace X3:Hid (aB XA (w.heap.size+1+1) #[.string ⟨#[]⟩,.string ⟨#[]⟩,.string ⟨#[]⟩,.string ⟨#[]⟩,.string ⟨#[]⟩,.string ⟨#[]⟩] 38):=zh Kj
  clear Kj
  rw [EW] at hz ⊢
  clear EW
  clear Cx
  have jW:=hz
  clear hz
  obtain ⟨dV,dS,gM⟩:=X2.dx
  obtain ⟨mF,mD,pz⟩:=X3.dx
  have hres:=X3.out
  have gW:=hres.cell
  have gV:=hres.free
  go_wp2_with fail
  refine bP rfl rfl aL Tryz.underlying38 rfl zk ?_
  exact ⟨rfl,aA⟩
 ·rw [hl] at hm hw2 ⊢
  clear hl
  go_enter Tryz.func11,Tryz.ntmps11
  go_wp2_with fail
  obtain ⟨cO,EW,hz,X1,X2,X3⟩:=yM w #[.int .u8 k,.string s,.string t] 28 #[.string s1,.string t1,.string s2,.string t2,.string s3,.string t3] 38 #[.string ⟨#[]⟩,.string ⟨#[]⟩,.string ⟨#[]⟩,.string ⟨#[]⟩,.string ⟨#[]⟩,.string ⟨#[]⟩] 38
  rw [EW]
  have hk2:=Bt (Below.refl _ _) hz
  clear EW hz
  obtain ⟨dW,dU,fG⟩:=X1.dx
  refine aC [(.pure,0),(.read,1),(.pure,2),(.pure,3),(.read,4),(.ext,5),(.pure,6),(.fin,7)] zk zk zR zP ?_
  repeat (first|(refine ah rfl rfl fun J h=>?_;go_simp;refine h _ ?_;clear h J)|(refine au rfl rfl rfl rfl fun J h=>?_;go_simp;refine h _ ?_;clear h J;try go_simp))
  refine aD rfl rfl (fun uO hb3 J hJ=>?_);go_simp
  have hh3:Below cO.heap.size cO uO:=aA
  clear hb3
  refine (H1.out _).mono ?_
  rintro e rT ⟨rfl,hb4⟩
  refine hJ _ _ hb4 ?_
  clear hJ J
  have nG:=Bt hh3 hb4
  clear hh3 hb4
  repeat (first|(refine ah rfl rfl fun J h=>?_;go_simp;refine h _ ?_;clear h J)|(refine au rfl rfl rfl rfl fun J h=>?_;go_simp;refine h _ ?_;clear h J;try go_simp))
  refine aJ [_] rfl (fun JX Wo=>?_)
  have ig:Below cO.heap.size cO JX:=Bt nG aA
  clear Wo nG
  clear dW dU fG
  replace X1:=X1.bl ig
  replace X2:=X2.bl ig
  replace X3:=X3.bl ig
  have Cx:=Bt hk2 ig
  clear hk2
  clear ig
  obtain ⟨dV,dS,gM⟩:=X2.dx
  obtain ⟨mF,mD,pz⟩:=X3.dx
  go_upto_region 2 with fail
  clear dV dS gM mF mD pz
  have hz:Below w.heap.size w ((JX.setCell ⟨w.heap.size+1,2,none⟩ (.string u)).setCell ⟨w.heap.size+1,3,none⟩ (.string v)):=aA
  obtain ⟨XA,EW⟩:∃ y,((JX.setCell ⟨w.heap.size+1,2,none⟩ (.string u)).setCell ⟨w.heap.size+1,3,none⟩ (.string v))=y:=⟨_,rfl⟩
  have Kk:=((X2.out.set 2 (.string u)).set 3 (.string v))
  have Kj:=((X3.out.setOther (a:=⟨w.heap.size+1,2,none⟩) (.string u) (by first|assumption|(simp;done)|(simp;omega))).setOther (a:=⟨w.heap.size+1,3,none⟩) (.string v) (by first|assumption|(simp;done)|(simp;omega)))
  clear X1
  rw [EW] at Kk
  replace X2:Hid (aB XA (w.heap.size+1) #[.string s1,.string t1,.string u,.string v,.string s3,.string t3] 38):=zh Kk
  clear Kk
  rw [EW] at Kj
  replace X3:Hid (aB XA (w.heap.size+1+1) #[.string ⟨#[]⟩,.string ⟨#[]⟩,.string ⟨#[]⟩,.string ⟨#[]⟩,.string ⟨#[]⟩,.string ⟨#[]⟩] 38):=zh Kj
  clear Kj
  rw [EW] at hz ⊢
  clear EW
  clear Cx
  have jW:=hz
  clear hz
  obtain ⟨dV,dS,gM⟩:=X2.dx
  obtain ⟨mF,mD,pz⟩:=X3.dx
  have hres:=X3.out
  have gW:=hres.cell
  have gV:=hres.free
  go_wp2_with fail
  refine bP rfl rfl aL Tryz.underlying38 rfl zk ?_
  exact ⟨rfl,aA⟩
 ·rw [hl] at hm hw2 ⊢
  clear hl
  go_enter Tryz.func11,Tryz.ntmps11
  go_wp2_with fail
  obtain ⟨cO,EW,hz,X1,X2,X3⟩:=yM w #[.int .u8 k,.string s,.string t] 28 #[.string s1,.string t1,.string s2,.string t2,.string s3,.string t3] 38 #[.string ⟨#[]⟩,.string ⟨#[]⟩,.string ⟨#[]⟩,.string ⟨#[]⟩,.string ⟨#[]⟩,.string ⟨#[]⟩] 38
  rw [EW]
  have hk2:=Bt (Below.refl _ _) hz
  clear EW hz
  obtain ⟨dW,dU,fG⟩:=X1.dx
  refine aC [(.pure,0),(.read,1),(.pure,2),(.pure,3),(.read,4),(.ext,5),(.pure,6),(.fin,7)] zk zk zR zP ?_
  repeat (first|(refine ah rfl rfl fun J h=>?_;go_simp;refine h _ ?_;clear h J)|(refine au rfl rfl rfl rfl fun J h=>?_;go_simp;refine h _ ?_;clear h J;try go_simp))
  refine aD rfl rfl (fun uO hb3 J hJ=>?_);go_simp
  have hh3:Below cO.heap.size cO uO:=aA
  clear hb3
  refine (H1.out _).mono ?_
  rintro e rT ⟨rfl,hb4⟩
  refine hJ _ _ hb4 ?_
  clear hJ J
  have nG:=Bt hh3 hb4
  clear hh3 hb4
  repeat (first|(refine ah rfl rfl fun J h=>?_;go_simp;refine h _ ?_;clear h J)|(refine au rfl rfl rfl rfl fun J h=>?_;go_simp;refine h _ ?_;clear h J;try go_simp))
  refine aJ [_] rfl (fun JX Wo=>?_)
  have ig:Below cO.heap.size cO JX:=Bt nG aA
  clear Wo nG
  clear dW dU fG
  replace X1:=X1.bl ig
  replace X2:=X2.bl ig
  replace X3:=X3.bl ig
  have Cx:=Bt hk2 ig
  clear hk2
  clear ig
  obtain ⟨dV,dS,gM⟩:=X2.dx
  obtain ⟨mF,mD,pz⟩:=X3.dx
  go_upto_region 2 with fail
  clear dV dS gM mF mD pz
  have hz:Below w.heap.size w ((JX.setCell ⟨w.heap.size+1,4,none⟩ (.string u)).setCell ⟨w.heap.size+1,5,none⟩ (.string v)):=aA
  obtain ⟨XA,EW⟩:∃ y,((JX.setCell ⟨w.heap.size+1,4,none⟩ (.string u)).setCell ⟨w.heap.size+1,5,none⟩ (.string v))=y:=⟨_,rfl⟩
  have Kk:=((X2.out.set 4 (.string u)).set 5 (.string v))
  have Kj:=((X3.out.setOther (a:=⟨w.heap.size+1,4,none⟩) (.string u) (by first|assumption|(simp;done)|(simp;omega))).setOther (a:=⟨w.heap.size+1,5,none⟩) (.string v) (by first|assumption|(simp;done)|(simp;omega)))
  clear X1
  rw [EW] at Kk
  replace X2:Hid (aB XA (w.heap.size+1) #[.string s1,.string t1,.string s2,.string t2,.string u,.string v] 38):=zh Kk
  clear Kk
  rw [EW] at Kj
  replace X3:Hid (aB XA (w.heap.size+1+1) #[.string ⟨#[]⟩,.string ⟨#[]⟩,.string ⟨#[]⟩,.string ⟨#[]⟩,.string ⟨#[]⟩,.string ⟨#[]⟩] 38):=zh Kj
  clear Kj
  rw [EW] at hz ⊢
  clear EW
  clear Cx
  have jW:=hz
  clear hz
  obtain ⟨dV,dS,gM⟩:=X2.dx
  obtain ⟨mF,mD,pz⟩:=X3.dx
  have hres:=X3.out
  have gW:=hres.cell
  have gV:=hres.free
  go_wp2_with fail
  refine bP rfl rfl aL Tryz.underlying38 rfl zk ?_
  exact ⟨rfl,aA⟩
end Go.Proofs.aK
namespace Go.Proofs.aV
open Go Go.RowKit Go.SW Go.Num Go.Mem Go.Proofs Go.Dec Go.dB Go.Proofs.aG Go.Proofs.aI Go.Proofs.aK
theorem Rj {x y z:Fr} (h:light.jG ⟨x,y,z⟩=0):(rd x).isSome=true∧(rd y).isSome=true∧(rd z).isSome=true:=by
 have h1:light.iU ⟨x,y,z⟩=0:=by
  unfold light.jG at h
  by_cases hc:light.iU ⟨x,y,z⟩=0
  ·exact hc
  ·rw [if_neg hc] at h
   exact h
 have h2:dP [x,y,z]=0:=by
  unfold light.iU at h1
  by_cases hc:dP [x,y,z]=0
  ·exact hc
  ·rw [show light.aY.list ⟨x,y,z⟩=[x,y,z] from rfl,if_neg hc] at h1
   omega
 unfold dP at h2
 by_cases hc:([x,y,z].all fun a=>(rd a).isSome)=true
 ·simpa using hc
 ·rw [if_neg hc] at h2
  omega
def Few (k:Nat) (x:Fr):Prop:=Fits x∧((rd x).isSome=true→∃ q,x=Fr.of q∧adapt.Ht k q)
theorem zX {a b c:Nat} {x y z:Fr} (h:a+b+c≤40) (hx:Few a x) (hy:Few b y) (hz:Few c z):Ul ⟨x,y,z⟩:=by
 refine ⟨fun i hi=>?_,fun hs=>?_⟩
 ·rcases (by omega:i=0∨i=1∨i=2) with rfl|rfl|rfl
  ·exact hx.1
  ·exact hy.1
  ·exact hz.1
 ·obtain ⟨s1,s2,s3⟩:=Rj hs
  obtain ⟨p,rfl,hp⟩:=hx.2 s1
  obtain ⟨q,rfl,hq⟩:=hy.2 s2
  obtain ⟨r,rfl,hr⟩:=hz.2 s3
  exact ⟨fun i=>if i=0 then p else if i=1 then q else r,rfl,a,b,c,h,hp,hq,hr⟩
theorem nO {n:Int} (h1:0≤n) (h2:n≤65535):Few 5 (Fr.of (verdigrislaw25.q2 n 1000)):=by
 have ht:(65535:Nat)≤gK 5:=by decide
 have hq:adapt.Ht 5 (verdigrislaw25.q2 n 1000):=⟨n,1000,by omega,by omega,by omega,rfl⟩
 exact ⟨eY (hq.ok zo),fun _=>⟨_,rfl,hq⟩⟩
theorem Gn (s t:ByteArray):Few 20 ⟨kR s,kR t⟩:=by
 have hs:=rD s
 have ht:=rD t
 refine ⟨⟨by show (kR s).size≤_;omega,by show (kR t).size≤_;omega⟩,fun h=>?_⟩
 obtain ⟨q,hq⟩:=Option.isSome_iff_exists.1 h
 exact ⟨q,(jJ hq).1,adapt.Lh hq hs ht⟩
theorem Az {a b c:Int} (ha:0≤a∧a≤65535) (hb:0≤b∧b≤65535) (hc:0≤c∧c≤65535):Ul (verdigrislaw25.tq a b c 1000) :=
 zX zo (nO ha.1 ha.2) (nO hb.1 hb.2) (nO hc.1 hc.2)
theorem OM {a b c:Int} (k:Int) (s t:ByteArray) (ha:0≤a∧a≤65535) (hb:0≤b∧b≤65535) (hc:0≤c∧c≤65535):Ul (Uj k ⟨kR s,kR t⟩ (verdigrislaw25.tq a b c 1000)):=by
 unfold Uj
 split
 ·exact zX (a:=20) (b:=5) (c:=5) zo (Gn s t) (nO hb.1 hb.2) (nO hc.1 hc.2)
 ·split
  ·exact zX (a:=5) (b:=20) (c:=5) zo (nO ha.1 ha.2) (Gn s t) (nO hc.1 hc.2)
  ·exact zX (a:=5) (b:=5) (c:=20) zo (nO ha.1 ha.2) (nO hb.1 hb.2) (Gn s t)
end Go.Proofs.aV
namespace Go.Proofs.verdigrislaw25
open Go Go.RowKit Go.SW Go.Num Go.Mem Go.Proofs Go.Dec Go.dB
theorem bO.slice {w:World} {v:Value} {m:List (List Fr)} (h:bO w v m):∃ pa l ca,v= .slice pa l ca:=by
 obtain ⟨rs,⟨a,c,e, -⟩, -⟩:=h
 exact ⟨_,_,_,e⟩
theorem XD {a b c:Int}:∃ s,adapt.Wh s∧tq (1+a%2000) (1+b%2000) (1+c%2000) 1000=adapt.bH s:=by
 have key:∀ n:Int,adapt.Ht 4 (q2 (1+n%2000) 1000)∧0<q2 (1+n%2000) 1000:=fun n=>by
  refine ⟨⟨1+n%2000,1000,by omega,by decide,?_,rfl⟩,?_⟩
  ·have:(2000:Nat)≤gK 4:=by decide
   omega
  ·unfold q2
   have h1:((0:Int):Rat)<((1+n%2000:Int):Rat):=Rat.intCast_lt_intCast.2 zo
   rw [Rat.div_def]
   exact Rat.mul_pos h1 (by decide+kernel)
 refine ⟨fun i=>if i=0 then q2 (1+a%2000) 1000 else if i=1 then q2 (1+b%2000) 1000 else q2 (1+c%2000) 1000,fun i hi=>?_,rfl⟩
 have:i=0∨i=1∨i=2:=by omega
 rcases this with rfl|rfl|rfl
 ·exact key a
 ·exact key b
 ·exact key c
end Go.Proofs.verdigrislaw25
namespace Go.Proofs.YtddblpggomphpaaGreatDoor
open Go Go.ChangeShapes Go.WideShapes Go.ChangeAt Go.RowKit Go.Proofs
theorem aD0:ownKnob Tryz.prog.godebug=none:=by kernel_rfl
theorem Sm:laidOutB Tryz.prog=true:=by kernel_rfl
theorem P7 (os:Os) (args:Array Value):laidMetH Tryz.prog Rows.adaptColoursRow.laid ((World.doorLaid Tryz.prog 4000 os).forCall (fun _ _=>0) ⟨#[],args,[]⟩).memory:=by
 rw [MakeChecks.laidMetH_plain _ _ _ zk]
 exact laidMet_of_run' 8 zk zk
theorem ax2 {k:Int} {a b:light.aY} {d:dB.Fr}:aI.pQ (if adapt.yu k a b d=0 then (adapt.pX k a b d).fr else []):=by
 intro r hr x hx
 split at hr
 ·rename_i he
  have hq:matrix.gX (adapt.pX k a b d)=true:=by
   by_cases hh:matrix.gX (adapt.pX k a b d)=true
   ·exact hh
   ·exfalso
    unfold adapt.yu at he
    rw [if_neg hh] at he
    split at he
    ·exact absurd he (by assumption)
    ·split at he<;>omega
  obtain ⟨r',hr',rfl⟩:=List.mem_map.1 hr
  obtain ⟨q,hq',rfl⟩:=List.mem_map.1 hx
  unfold matrix.gX at hq
  have k1:r'.all dB.dA=true:=List.all_eq_true.1 hq r' hr'
  have k2:dB.dA q=true:=List.all_eq_true.1 k1 q hq'
  exact aI.eY k2
 ·cases hr
theorem WR {r c n a0 a1 a2 c0 c1 c2 t0 t1 t2 k:Int} {al:Option Addr} {ll cl:Nat} {s t:ByteArray} {va vc vt vb:Value} {w:World} (hr:0≤r∧r≤255) (hc:0≤c∧c≤255) (hn:0≤n∧n≤255) (hd:aI.rR w (.slice al ll cl))
  (ca:Col va a0 a1 a2) (cc:Col vc c0 c1 c2) (ct:Col vt t0 t1 t2) (cb:az4 vb k s t) (ht:pR.Pow w) (hcn:adapt.kU w) :
  Calls Tryz.prog 4 #[.agg #[.int .u8 r,.int .u8 c,.slice al ll cl],.int .u8 n,va,vc,vt,vb] w (fun e w'=>e= .returned (.bool true)∧Below w.heap.size w w'):=by
 obtain ⟨rfl,ka,kb,kc⟩:=ca
 obtain ⟨rfl,la,lb,lc⟩:=cc
 obtain ⟨rfl,ma,mb,mc⟩:=ct
 obtain ⟨rfl,hk⟩:=cb
 obtain ⟨nn,mm,G,n1,n4,m1,m4,hG,MD⟩:=aI.ag8 r c _ w hr hc hd
 have WX:=aK.JJ a0 a1 a2 ka kb kc
 have WY:=aK.JJ c0 c1 c2 la lb lc
 have WT:=aK.ag5 t0 t1 t2 ma mb mc
 have TX:=aV.Az (a:=1+a0%2000) (b:=1+a1%2000) (c:=1+a2%2000) zo zo zo
 have TY:=aV.Az (a:=1+c0%2000) (b:=1+c1%2000) (c:=1+c2%2000) zo zo zo
 have TT:=aV.Az (a:=t0) (b:=t1) (c:=t2) ma mb mc
 have TZ:=aV.OM (a:=t0) (b:=t1) (c:=t2) k s t ma mb mc
 obtain ⟨sx,hsx,ex⟩:=verdigrislaw25.XD (a:=a0) (b:=a1) (c:=a2)
 obtain ⟨sy,hsy,ey⟩:=verdigrislaw25.XD (a:=c0) (b:=c1) (c:=c2)
 have X0:light.jG (verdigrislaw25.tq (1+a0%2000) (1+a1%2000) (1+a2%2000) 1000)=0:=by rw [ex];exact hsx.snd
 have Y0:light.jG (verdigrislaw25.tq (1+c0%2000) (1+c1%2000) (1+c2%2000) 1000)=0:=by rw [ey];exact hsy.snd
 clear ex ey
 obtain ⟨m,hm,em⟩:∃ m:Nat,m<4∧1+n%4=(m:Int)+1:=⟨(n%4).toNat,by omega,by omega⟩
 have RM:=fun W=>aV.Qm m hm _ _ TX TY X0 Y0 1 (by decide+kernel) (by decide+kernel) (adapt.Ht.one.mono zo) W
 simp only [← em] at RM
 have FR:=ax2 (k:=1+n%4) (a:=verdigrislaw25.tq (1+a0%2000) (1+a1%2000) (1+a2%2000) 1000) (b:=verdigrislaw25.tq (1+c0%2000) (1+c1%2000) (1+c2%2000) 1000) (d:=dB.Fr.of 1)
 generalize verdigrislaw25.tq t0 t1 t2 1000=tt at *
 generalize verdigrislaw25.tq (1+c0%2000) (1+c1%2000) (1+c2%2000) 1000=ty at *
 generalize verdigrislaw25.tq (1+a0%2000) (1+a1%2000) (1+a2%2000) 1000=tx at *
 obtain ⟨⟨x1,x2⟩,⟨x3,x4⟩,⟨x5,x6⟩⟩:=tx
 obtain ⟨⟨y1,y2⟩,⟨y3,y4⟩,⟨y5,y6⟩⟩:=ty
 obtain ⟨⟨u1,u2⟩,⟨u3,u4⟩,⟨u5,u6⟩⟩:=tt
 have WZ:=aK.Xy k hk s t u1 u2 u3 u4 u5 u6
 generalize aK.Uj k ⟨aK.kR s,aK.kR t⟩ ⟨⟨u1,u2⟩,⟨u3,u4⟩,⟨u5,u6⟩⟩=tz at *
 have BO:=fun m (hm:aI.pQ m)=>And.intro (verdigrislaw25.Oa m _ hm TT.1 w ht) (verdigrislaw25.Oa m _ hm TZ.1 w ht)
 obtain ⟨⟨z1,z2⟩,⟨z3,z4⟩,⟨z5,z6⟩⟩:=tz
 have hrow:∀ r∈(List.range nn).map (fun i=>(List.range mm).map fun j=>dB.Fr.of (G i j)),r.length=mm:=fun r hr=>by
  obtain ⟨i, -, rfl⟩:=List.mem_map.1 hr
  simp
 have hfit:aI.pQ ((List.range nn).map (fun i=>(List.range mm).map fun j=>dB.Fr.of (G i j))):=fun r hr x hx=>by
  obtain ⟨i, -, rfl⟩:=List.mem_map.1 hr
  obtain ⟨j, -, rfl⟩:=List.mem_map.1 hx
  exact aI.eY (hG i j)
 exact verdigrislaw25.xQ r c n a0 a1 a2 c0 c1 c2 t0 t1 t2 k _ hn al ll cl s t x1 x2 x3 x4 x5 x6 y1 y2 y3 y4 y5 y6 u1 u2 u3 u4 u5 u6 z1 z2 z3 z4 z5 z6 (dB.Fr.of 1).n (dB.Fr.of 1).d (aK.kR s) (aK.kR t)
  _ _ nn mm zi n1 n4 hrow m1 m4 hfit FR (aK.rD s) (aK.rD t) w
  (zh fun W hW=>verdigrislaw25.QY W (ht.later hW) (hcn.later hW)) (zh MD) (zh fun W _=>WX W) (zh fun W _=>WY W) (zh fun W _=>aV.RL W)
  (zh fun W _=>(RM W).mono fun _ _ h=>verdigrislaw25.aS.sl h) (zh fun W _=>aK.Ox s t W) (zh fun W _=>WT W) (zh fun W _=>WZ W) (zh BO)
theorem uX (os:Os) (started:os.Started) (H:Type) (enc:TypeId × Value→H) :
  ReturnsInHanded {} Tryz.checked os 4 .any (fun w args=>(Rows.adaptColoursSpec.pre enc Tryz.prog Tryz.f4 [] false w args∧laidMetH Tryz.prog Rows.adaptColoursRow.laid w)∧sizedMet enc Tryz.prog Tryz.f4 (OpenSpec.ofChange Rows.adaptColoursSpec) false w args)
   (Rows.adaptColoursSpec.post enc Tryz.prog Tryz.f4 false true false false):=by
 refine returnsInHanded_of_change_and (C:=Tryz.checked) (X:=fun w _=>laidMetH Tryz.prog Rows.adaptColoursRow.laid w) (fun _ _ _ hh h=>h.of_heap hh) aD0 started zk Tryz.func4
  (ChangeSpec.witness_shaped (enc:=enc) (C:=Tryz.checked) (os:=os) (X:=fun w _=>laidMetH Tryz.prog Rows.adaptColoursRow.laid w) false (World.doorLaid Tryz.prog 4000 os) #[.agg #[.int .u8 0,.int .u8 0,.slice none 0 0],.int .u8 0,.agg #[.int .u16 0,.int .u16 0,.int .u16 0],.agg #[.int .u16 0,.int .u16 0,.int .u16 0],.agg #[.int .u16 0,.int .u16 0,.int .u16 0],.agg #[.int .u8 0,.string ⟨#[]⟩,.string ⟨#[]⟩]] 8 rfl (World.shaped_of_RefB zk zk) zk zk zk (P7 os _)) ?_
 intro W base args ds gs before hval0 hW _ _ hL _
 have hW':=hW
 obtain ⟨p,q,hA0,hV,rfl,hfz,hnd⟩:=hW
 have hA:DataW.TrodAll enc Tryz.prog W 0 (fun _=>true) true Tryz.f4.params.toList args.toList ds p:=hA0
 rw [Tryz.params4] at hA
 have hval:∀ (j:Nat) t v,Tryz.f4.params[j]? =some t→args[j]? =some v→Value.okWide Tryz.prog W .any base t v:=hval0
 rw [Tryz.params4] at hval
 obtain ⟨v0,v1,v2,v3,v4,v5,d0,d1,d2,d3,d4,d5,p0,p1,p2,p3,p4,p5,rfl,rfl,rfl,h0,h1,h2,h3,h4,h5⟩:=ag3 hA
 obtain ⟨rfl,rfl⟩:=trodVars_none hV
 have h0k:=h0
 obtain ⟨r,c,al,ll,cl,rfl,hr,hc,hd⟩:=Pm (hval 0 53 v0 rfl rfl) h0
 obtain ⟨n,rfl,rfl,rfl,wn⟩:=open_int Tryz.underlying5 (hval 1 5 v1 rfl rfl) h1
 obtain ⟨a0,a1,a2,ca,rfl,ra⟩:=sJ (hval 2 24 v2 rfl rfl) h2
 obtain ⟨b0,b1,b2,cb,rfl,rb⟩:=sJ (hval 3 24 v3 rfl rfl) h3
 obtain ⟨e0,e1,e2,ce,rfl,re⟩:=sJ (hval 4 24 v4 rfl rfl) h4
 obtain ⟨k,s,t,cc,rfl,rc⟩:=RJ (hval 5 28 v5 rfl rfl) h5
 simp only [List.append_nil] at hW'
 have hlt:∀ x∈p0,x.block<W.heap.size:=fun x hx=>by simpa using hW'.lt x hx
 obtain ⟨hp,hcn⟩:=VH hL
 refine (WR hr hc (MP wn) hd ca cb ce cc hp hcn).mono fun e W' ⟨he,hb⟩=>?_
 subst he
 refine ⟨_,rfl,_,_,_,[],p0,[],hW',?_,?_,?_,hb.frame _,fun h=>by cases h⟩
 ·exact trodAll_mk1 (shut_bool Tryz.underlying4 true)
 ·exact ⟨p0,[],Below.trod Sm zk (of_decide_eq_true zk) h0k hb hlt,⟨_,_,shut_int Tryz.underlying5 wn,⟨_,_,ra _ _ _ _,trodAll_mk3 (rb _ _ _ _) (re _ _ _ _) (rc _ _ _ _),rfl⟩,rfl⟩,by simp⟩
 ·rfl
theorem vW:Rows.AdaptColoursSaid :=
 OpenClaim.holds_of_wide 4 Tryz.f4 rfl rfl rfl rfl rfl rfl rfl ⟨rfl,rfl,rfl,rfl,rfl⟩ rfl rfl rfl rfl rfl zk Tryz.func4 zk
  (of_decide_eq_true zk) (by unfold Func.isWrapper;first|(rw [if_pos (by decide+kernel)];kernel_rfl)|(rw [if_neg (by decide+kernel)];exact ⟨rfl,rfl⟩))
  (fun os started H enc _=>uX os started H enc)
theorem YO:Tryz.prog.wantsStandIn 53=false:=by kernel_rfl
theorem Vg:Tryz.prog.wantsStandIn 28=false:=by kernel_rfl
theorem Vh:Tryz.prog.wantsStandIn 5=false:=by kernel_rfl
theorem Vf:Tryz.prog.wantsStandIn 24=false:=by kernel_rfl
theorem adaptColours_card:Rows.AdaptColoursCardSaid :=
 Claim7.holds_tied_plain_at .later [] [.data, .data, .data, .data] true (true, "50e1582605f5adda48684425b8549e6e38f1d8943c6eb8551d2394c5aed60ef4") true
  vW (fun _ h=>by cases h) zk (fun _ h=>by cases h) adaptColours_row_tie rfl ⟨rfl,rfl⟩ zk rfl
  (fun f fn hf hfn=>by
   obtain rfl : f = 4 := Option.some.inj ((show Tryz.prog.funcNamed "verdigris/verdigrislaw25.AdaptColours" = some 4 by kernel_rfl).symm.trans hf) |>.symm
   obtain rfl:fn=Tryz.f4:=(Option.some.inj (Tryz.func4.symm.trans hfn)).symm
   exact ⟨by kernel_rfl,fun j t ht=>by
    rw [Tryz.params4] at ht
    have ht':t=53∨t=5∨t=24∨t=28:=by
     rcases j with _| _| _| _| _| _|j<;>simp at ht
     ·exact .inl ht.symm
     ·exact .inr (.inl ht.symm)
     ·exact .inr (.inr (.inl ht.symm))
     ·exact .inr (.inr (.inl ht.symm))
     ·exact .inr (.inr (.inl ht.symm))
     ·exact .inr (.inr (.inr ht.symm))
    rcases ht' with rfl|rfl|rfl|rfl
    ·exact YO
    ·exact Vh
    ·exact Vf
    ·exact Vg⟩)
  zk
end Go.Proofs.YtddblpggomphpaaGreatDoor
