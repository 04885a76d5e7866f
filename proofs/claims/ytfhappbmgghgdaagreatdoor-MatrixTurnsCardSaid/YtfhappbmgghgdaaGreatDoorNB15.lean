/- Lemmas for the proof. No condition. -/
import Derived.Test.YtfhappbmgghgdaaGreatDoorNB01
import Derived.Test.YtfhappbmgghgdaaGreatDoorNB02
import Derived.Test.YtfhappbmgghgdaaGreatDoorNB14
import Derived.RegionTactic
import Derived.Deep.Cut
set_option linter.unusedVariables false
set_option linter.unusedSimpArgs false
set_option maxRecDepth 100000
set_option maxHeartbeats 16000000
namespace Go.Proofs.verdigrisref01
open Go Go.RowKit Go.SW Go.Num Go.Mem Go.Proofs
theorem made_gs (b:Bool) (v:Value) (l:List Nat) (n:Nat) (z:Int) (w:World) (h:Gs w v l) (hd:Dig 10000 l) (hn:val 10000 l=n) (hz:sgd n b=z) :
  Calls Tryz.prog 186 #[.bool b,v] w fun e w'=>∃ v',e= .returned v'∧Below w.heap.size w w'∧Pl w' v' z:=by
 have:=made_ok b v l w h hd
 rwa [hn,hz] at this
theorem sgd_less {a b:Int} (h:decide (a<0)≠decide (b<0)) (hle:b.natAbs≤a.natAbs):sgd (a.natAbs - b.natAbs) (decide (a<0))=a+b:=by
 unfold sgd
 by_cases ha:a<0<;>by_cases hb:b<0<;>simp [ha,hb] at h ⊢<;>omega
def PlPost (w:World) (z:Int) (e:Ending) (w':World):Prop:=∃ v',e= .returned v'∧Below w.heap.size w w'∧Pl w' v' z
theorem Plus_ok (x y:Value) (a b:Int) (w:World) (hx:Pl w x a) (hy:Pl w y b) (ha:sz 10000 a.natAbs≤549755813888) (hb:sz 10000 b.natAbs≤549755813888) :
  Calls Tryz.prog 181 #[x,y] w (PlPost w (a+b)):=by
 obtain ⟨bA,paA,lA,caA,rfl⟩:=hx.agg
 obtain ⟨bB,paB,lB,caB,rfl⟩:=hy.agg
 obtain ⟨nA,eA⟩:=hx.nm
 obtain ⟨nB,eB⟩:=hy.nm
 have NAn:=zh nA
 have NBn:=zh nB
 have KA:=zh ha
 have KB:=zh hb
 by_cases hab:bA=bB
 ·subst hab
  have hs:sgd (a.natAbs+b.natAbs) bA=a+b:=sgd_add eA.symm eB.symm
  have HS:=zh hs
  clear nA nB eA eB ha hb hx hy hs
  go_enter Tryz.func181,Tryz.ntmps181
  go_wp2_with fail
  obtain ⟨wq1,EW,hz,X1,X2,X3⟩:=al3 w #[.bool bA,.slice paA lA caA] 121 #[.bool bA,.slice paB lB caB] 121 #[.bool false,.slice none 0 0] 121
  rw [EW]
  replace NAn:=zh (NAn.out.later hz)
  have hk2:=Bt (Below.refl _ _) hz
  clear EW hz
  obtain ⟨cX1,lX1,fX1⟩:=X1.clf
  obtain ⟨cX2,lX2,fX2⟩:=X2.clf
  refine wp_region_walk [(.pure,0),(.read,1),(.pure,2),(.read,3),(.pure,4),(.read,5),(.ext,6),(.ext,7),(.fin,8)] zk zk zR zP ?_
  repeat (first|(refine walk_pure0 rfl rfl fun J h=>?_;go_simp;refine h _ ?_;clear h J)|(refine walk_load rfl rfl rfl rfl fun J h=>?_;go_simp;refine h _ ?_;clear h J;try go_simp))
  refine walk_ext rfl rfl (fun we3 hb3 J hJ=>?_);go_simp
  have hh3:Below wq1.heap.size wq1 we3:=belA
  clear hb3
  refine (sum_ok _ _ _ _ _ (NAn.out.later hh3) (NBn.out.later (Bt hk2 hh3)) KA.out KB.out).mono ?_
  rintro e wc4 ⟨v,s,rfl,hb4,hg,hd,hv⟩
  obtain ⟨paS,caS,rfl, -⟩:=hg.read
  have HDS:=zh hd
  have HVS:=zh hv
  clear hd hv
  refine hJ _ _ hb4 ?_
  clear hJ J
  have hh4:=Bt hh3 hb4
  have NS:=zh hg
  clear hh3 hb4 hg
  repeat (first|(refine walk_pure0 rfl rfl fun J h=>?_;go_simp;refine h _ ?_;clear h J)|(refine walk_load rfl rfl rfl rfl fun J h=>?_;go_simp;refine h _ ?_;clear h J;try go_simp))
  refine walk_ext rfl rfl (fun we6 hb6 J hJ=>?_);go_simp
  have hh6:Below wq1.heap.size wq1 we6:=Bt hh4 belA
  replace NS:=zh (NS.out.later (show Below wc4.heap.size wc4 we6 from belA))
  clear hb6 hh4
  refine (made_gs _ _ _ _ _ _ NS.out HDS.out HVS.out HS.out).mono ?_
  rintro e wc7 ⟨v,rfl,hb7,hv8⟩
  obtain ⟨bR,paR,lR,caR,rfl⟩:=hv8.agg
  refine hJ _ _ hb7 ?_
  clear hJ J
  have hh7:=Bt hh6 hb7
  replace NS:=zh (NS.out.later hb7)
  have NR:=zh hv8
  clear hh6 hb7 hv8
  repeat (first|(refine walk_pure0 rfl rfl fun J h=>?_;go_simp;refine h _ ?_;clear h J)|(refine walk_load rfl rfl rfl rfl fun J h=>?_;go_simp;refine h _ ?_;clear h J;try go_simp))
  refine walk_fin [_] rfl (fun wf9 hf9=>?_)
  replace NS:=zh (NS.out.later (show Below wc7.heap.size wc7 wf9 from belA))
  replace NR:=zh (NR.out.later (show Below wc7.heap.size wc7 wf9 from belA))
  have hh9:Below wq1.heap.size wq1 wf9:=Bt hh7 belA
  clear hf9 hh7
  clear cX1 lX1 fX1 cX2 lX2 fX2
  replace NAn:=zh (NAn.out.later hh9)
  replace X1:=X1.bl hh9
  replace X2:=X2.bl hh9
  replace X3:=X3.bl hh9
  have hk10:=Bt hk2 hh9
  clear hk2
  clear hh9
  clear NS
  obtain ⟨cX3,lX3,fX3⟩:=X3.clf
  have hres:=X3.out
  go_wp2_with fail
  refine ret_c rfl rfl boxA Tryz.underlying121 rfl zk ?_
  exact ⟨_,rfl,belA,NR.out.set2 hres zd _ _ _ _⟩
 ·have hE:(bA == bB)=false:=by simp [hab]
  by_cases hle:b.natAbs≤a.natAbs
  ·have hs:sgd (a.natAbs - b.natAbs) bA=a+b:=by
    rw [eA]
    exact sgd_less (by rw [← eA,← eB];exact hab) hle
   have HS:=zh hs
   have HLE:=zh hle
   clear nA nB eA eB ha hb hx hy hs hle hab
   go_enter Tryz.func181,Tryz.ntmps181
   go_wp2_with fail
   obtain ⟨wq1,EW,hz,X1,X2,X3⟩:=al3 w #[.bool bA,.slice paA lA caA] 121 #[.bool bB,.slice paB lB caB] 121 #[.bool false,.slice none 0 0] 121
   rw [EW]
   replace NAn:=zh (NAn.out.later hz)
   replace NBn:=zh (NBn.out.later hz)
   have hk2:=Bt (Below.refl _ _) hz
   clear EW hz
   refine (order_ok _ _ _ _ _ NAn.out NBn.out).mono ?_
   rintro e wc3 ⟨r,rfl,hb3,hor⟩
   have hr:0≤r:=hor.2.2 HLE.out
   clear hor
   replace NAn:=zh (NAn.out.later hb3)
   replace NBn:=zh (NBn.out.later hb3)
   replace X1:=X1.bl hb3
   replace X2:=X2.bl hb3
   replace X3:=X3.bl hb3
   have hk5:=Bt hk2 hb3
   clear hk2
   clear hb3
   go_wp2_with fail
   obtain ⟨cX1,lX1,fX1⟩:=X1.clf
   obtain ⟨cX2,lX2,fX2⟩:=X2.clf
   refine wp_region_walk [(.pure,0),(.read,1),(.pure,2),(.read,3),(.pure,4),(.read,5),(.ext,6),(.ext,7),(.fin,8)] zk zk zR zP ?_
   repeat (first|(refine walk_pure0 rfl rfl fun J h=>?_;go_simp;refine h _ ?_;clear h J)|(refine walk_load rfl rfl rfl rfl fun J h=>?_;go_simp;refine h _ ?_;clear h J;try go_simp))
   refine walk_ext rfl rfl (fun we6 hb6 J hJ=>?_);go_simp
   have hh6:Below wc3.heap.size wc3 we6:=belA
   clear hb6
   refine (difference_ok _ _ _ _ _ (NAn.out.later hh6) (NBn.out.later hh6) (by have:=KA.out;omega) HLE.out).mono ?_
   rintro e wc7 ⟨v,rfl,hb7,hv8⟩
   obtain ⟨paD,lD,caD,rfl⟩:=hv8.slice
   refine hJ _ _ hb7 ?_
   clear hJ J
   have hh7:=Bt hh6 hb7
   have ND:=zh hv8
   clear hh6 hb7 hv8
   repeat (first|(refine walk_pure0 rfl rfl fun J h=>?_;go_simp;refine h _ ?_;clear h J)|(refine walk_load rfl rfl rfl rfl fun J h=>?_;go_simp;refine h _ ?_;clear h J;try go_simp))
   refine walk_ext rfl rfl (fun we9 hb9 J hJ=>?_);go_simp
   have hh9:Below wc3.heap.size wc3 we9:=Bt hh7 belA
   replace ND:=zh (ND.out.later (show Below wc7.heap.size wc7 we9 from belA))
   clear hb9 hh7
   refine (made_nm _ _ _ _ _ ND.out HS.out).mono ?_
   rintro e wc10 ⟨v,rfl,hb10,hv11⟩
   obtain ⟨bR,paR,lR,caR,rfl⟩:=hv11.agg
   refine hJ _ _ hb10 ?_
   clear hJ J
   have hh10:=Bt hh9 hb10
   replace ND:=zh (ND.out.later hb10)
   have NR:=zh hv11
   clear hh9 hb10 hv11
   repeat (first|(refine walk_pure0 rfl rfl fun J h=>?_;go_simp;refine h _ ?_;clear h J)|(refine walk_load rfl rfl rfl rfl fun J h=>?_;go_simp;refine h _ ?_;clear h J;try go_simp))
   refine walk_fin [_] rfl (fun wf12 hf12=>?_)
   replace ND:=zh (ND.out.later (show Below wc10.heap.size wc10 wf12 from belA))
   replace NR:=zh (NR.out.later (show Below wc10.heap.size wc10 wf12 from belA))
   have hh12:Below wc3.heap.size wc3 wf12:=Bt hh10 belA
   clear hf12 hh10
   clear cX1 lX1 fX1 cX2 lX2 fX2
   replace NAn:=zh (NAn.out.later hh12)
   replace NBn:=zh (NBn.out.later hh12)
   replace X1:=X1.bl hh12
   replace X2:=X2.bl hh12
   replace X3:=X3.bl hh12
   have hk13:=Bt hk5 hh12
   clear hk5
   clear hh12
   clear ND
   obtain ⟨cX3,lX3,fX3⟩:=X3.clf
   have hres:=X3.out
   go_wp2_with fail
   refine ret_c rfl rfl boxA Tryz.underlying121 rfl zk ?_
   exact ⟨_,rfl,belA,NR.out.set2 hres zd _ _ _ _⟩
  ·have hs:sgd (b.natAbs - a.natAbs) bB=a+b:=by
    rw [eB,Int.add_comm a b]
    exact sgd_less (by rw [← eA,← eB];exact fun h=>hab h.symm) zo
   have HS:=zh hs
   have HLE:Hid (a.natAbs≤b.natAbs):=zh zo
   have HLN:=zh hle
   clear nA nB eA eB ha hb hx hy hs hle hab
   go_enter Tryz.func181,Tryz.ntmps181
   go_wp2_with fail
   obtain ⟨wq1,EW,hz,X1,X2,X3⟩:=al3 w #[.bool bA,.slice paA lA caA] 121 #[.bool bB,.slice paB lB caB] 121 #[.bool false,.slice none 0 0] 121
   rw [EW]
   replace NAn:=zh (NAn.out.later hz)
   replace NBn:=zh (NBn.out.later hz)
   have hk2:=Bt (Below.refl _ _) hz
   clear EW hz
   refine (order_ok _ _ _ _ _ NAn.out NBn.out).mono ?_
   rintro e wc3 ⟨r,rfl,hb3,hor⟩
   have hr:¬ 0≤r:=fun h=>HLN.out (hor.2.1 h)
   clear hor
   replace NAn:=zh (NAn.out.later hb3)
   replace NBn:=zh (NBn.out.later hb3)
   replace X1:=X1.bl hb3
   replace X2:=X2.bl hb3
   replace X3:=X3.bl hb3
   have hk5:=Bt hk2 hb3
   clear hk2
   clear hb3
   go_wp2_with fail
   obtain ⟨cX2,lX2,fX2⟩:=X2.clf
   obtain ⟨cX1,lX1,fX1⟩:=X1.clf
   refine wp_region_walk [(.pure,0),(.read,1),(.pure,2),(.read,3),(.pure,4),(.read,5),(.ext,6),(.ext,7),(.fin,8)] zk zk zR zP ?_
   repeat (first|(refine walk_pure0 rfl rfl fun J h=>?_;go_simp;refine h _ ?_;clear h J)|(refine walk_load rfl rfl rfl rfl fun J h=>?_;go_simp;refine h _ ?_;clear h J;try go_simp))
   refine walk_ext rfl rfl (fun we6 hb6 J hJ=>?_);go_simp
   have hh6:Below wc3.heap.size wc3 we6:=belA
   clear hb6
   refine (difference_ok _ _ _ _ _ (NBn.out.later hh6) (NAn.out.later hh6) (by have:=KB.out;omega) HLE.out).mono ?_
   rintro e wc7 ⟨v,rfl,hb7,hv8⟩
   obtain ⟨paD,lD,caD,rfl⟩:=hv8.slice
   refine hJ _ _ hb7 ?_
   clear hJ J
   have hh7:=Bt hh6 hb7
   have ND:=zh hv8
   clear hh6 hb7 hv8
   repeat (first|(refine walk_pure0 rfl rfl fun J h=>?_;go_simp;refine h _ ?_;clear h J)|(refine walk_load rfl rfl rfl rfl fun J h=>?_;go_simp;refine h _ ?_;clear h J;try go_simp))
   refine walk_ext rfl rfl (fun we9 hb9 J hJ=>?_);go_simp
   have hh9:Below wc3.heap.size wc3 we9:=Bt hh7 belA
   replace ND:=zh (ND.out.later (show Below wc7.heap.size wc7 we9 from belA))
   clear hb9 hh7
   refine (made_nm _ _ _ _ _ ND.out HS.out).mono ?_
   rintro e wc10 ⟨v,rfl,hb10,hv11⟩
   obtain ⟨bR,paR,lR,caR,rfl⟩:=hv11.agg
   refine hJ _ _ hb10 ?_
   clear hJ J
   have hh10:=Bt hh9 hb10
   replace ND:=zh (ND.out.later hb10)
   have NR:=zh hv11
   clear hh9 hb10 hv11
   repeat (first|(refine walk_pure0 rfl rfl fun J h=>?_;go_simp;refine h _ ?_;clear h J)|(refine walk_load rfl rfl rfl rfl fun J h=>?_;go_simp;refine h _ ?_;clear h J;try go_simp))
   refine walk_fin [_] rfl (fun wf12 hf12=>?_)
   replace ND:=zh (ND.out.later (show Below wc10.heap.size wc10 wf12 from belA))
   replace NR:=zh (NR.out.later (show Below wc10.heap.size wc10 wf12 from belA))
   have hh12:Below wc3.heap.size wc3 wf12:=Bt hh10 belA
   clear hf12 hh10
   clear cX2 lX2 fX2 cX1 lX1 fX1
   replace NAn:=zh (NAn.out.later hh12)
   replace NBn:=zh (NBn.out.later hh12)
   replace X1:=X1.bl hh12
   replace X2:=X2.bl hh12
   replace X3:=X3.bl hh12
   have hk13:=Bt hk5 hh12
   clear hk5
   clear hh12
   clear ND
   obtain ⟨cX3,lX3,fX3⟩:=X3.clf
   have hres:=X3.out
   go_wp2_with fail
   refine ret_c rfl rfl boxA Tryz.underlying121 rfl zk ?_
   exact ⟨_,rfl,belA,NR.out.set2 hres zd _ _ _ _⟩
theorem Minus_ok (x y:Value) (a b:Int) (w:World) (hx:Pl w x a) (hy:Pl w y b) (ha:sz 10000 a.natAbs≤549755813888) (hb:sz 10000 b.natAbs≤549755813888) :
  Calls Tryz.prog 227 #[x,y] w (PlPost w (a - b)):=by
 obtain ⟨bA,paA,lA,caA,rfl⟩:=hx.agg
 obtain ⟨bB,paB,lB,caB,rfl⟩:=hy.agg
 have NA:=zh hx
 have NB:=zh hy
 have KA:=zh ha
 have KB:Hid (sz 10000 (-b).natAbs≤549755813888):=zh (by rw [Int.natAbs_neg];exact hb)
 clear ha hb hx hy
 go_enter Tryz.func227,Tryz.ntmps227
 go_wp2_with fail
 obtain ⟨wq1,EW,hz,X1,X2,X3⟩:=al3 w #[.bool bA,.slice paA lA caA] 121 #[.bool bB,.slice paB lB caB] 121 #[.bool false,.slice none 0 0] 121
 rw [EW]
 replace NA:=zh (NA.out.later hz)
 replace NB:=zh (NB.out.later hz)
 have hk2:=Bt (Below.refl _ _) hz
 clear EW hz
 obtain ⟨cX1,lX1,fX1⟩:=X1.clf
 obtain ⟨cX2,lX2,fX2⟩:=X2.clf
 refine wp_region_walk [(.read,0),(.read,1),(.ext,2),(.ext,3),(.fin,4)] zk zk zR zP ?_
 repeat (first|(refine walk_pure0 rfl rfl fun J h=>?_;go_simp;refine h _ ?_;clear h J)|(refine walk_load rfl rfl rfl rfl fun J h=>?_;go_simp;refine h _ ?_;clear h J;try go_simp))
 refine walk_ext rfl rfl (fun we3 hb3 J hJ=>?_);go_simp
 have hh3:Below wq1.heap.size wq1 we3:=belA
 clear hb3
 refine (Turn_ok _ _ _ (NB.out.later hh3)).mono ?_
 rintro e wc4 ⟨v,rfl,hb4,hv5⟩
 obtain ⟨bT,paT,lT,caT,rfl⟩:=hv5.agg
 refine hJ _ _ hb4 ?_
 clear hJ J
 have hh4:=Bt hh3 hb4
 have NT:=zh hv5
 clear hh3 hb4 hv5
 repeat (first|(refine walk_pure0 rfl rfl fun J h=>?_;go_simp;refine h _ ?_;clear h J)|(refine walk_load rfl rfl rfl rfl fun J h=>?_;go_simp;refine h _ ?_;clear h J;try go_simp))
 refine walk_ext rfl rfl (fun we6 hb6 J hJ=>?_);go_simp
 have hh6:Below wq1.heap.size wq1 we6:=Bt hh4 belA
 replace NT:=zh (NT.out.later (show Below wc4.heap.size wc4 we6 from belA))
 clear hb6 hh4
 refine (Plus_ok _ _ _ _ _ (NA.out.later hh6) NT.out KA.out KB.out).mono ?_
 rintro e wc7 ⟨v,rfl,hb7,hv8⟩
 obtain ⟨bR,paR,lR,caR,rfl⟩:=hv8.agg
 refine hJ _ _ hb7 ?_
 clear hJ J
 have hh7:=Bt hh6 hb7
 replace NT:=zh (NT.out.later hb7)
 have NR:=zh hv8
 clear hh6 hb7 hv8
 repeat (first|(refine walk_pure0 rfl rfl fun J h=>?_;go_simp;refine h _ ?_;clear h J)|(refine walk_load rfl rfl rfl rfl fun J h=>?_;go_simp;refine h _ ?_;clear h J;try go_simp))
 refine walk_fin [_] rfl (fun wf9 hf9=>?_)
 replace NT:=zh (NT.out.later (show Below wc7.heap.size wc7 wf9 from belA))
 replace NR:=zh (NR.out.later (show Below wc7.heap.size wc7 wf9 from belA))
 have hh9:Below wq1.heap.size wq1 wf9:=Bt hh7 belA
 clear hf9 hh7
 clear cX1 lX1 fX1 cX2 lX2 fX2
 replace NA:=zh (NA.out.later hh9)
 replace NB:=zh (NB.out.later hh9)
 replace X1:=X1.bl hh9
 replace X2:=X2.bl hh9
 replace X3:=X3.bl hh9
 have hk10:=Bt hk2 hh9
 clear hk2
 clear hh9
 clear NT
 obtain ⟨cX3,lX3,fX3⟩:=X3.clf
 have hres:=X3.out
 go_wp2_with fail
 refine ret_c rfl rfl boxA Tryz.underlying121 rfl zk ?_
 exact ⟨_,rfl,belA,NR.out.set2 hres zd _ _ _ _⟩
theorem ret_cc {P:Program} {fn:Func} {R:Ending→World→Prop} {w:World} {tmps:Array Value} {p q:Tmp} {ty t ty2 t2:TypeId} {g g2:Nat} {cs cs2:Array Value} {d d2:TypeDesc} (h:fn.results=#[.cell p ty,.cell q ty2])
  (hp:tmps.getD p undef= .pointer (some ⟨g,0,none⟩)) (hg:Box w g cs t) (hu:P.underlying ty=some d)
  (hd:(match d with| .struct _| .array _ _=>true| _=>false)=true) (hi:(P.info? ty).map (·.size)=some cs.size)
  (hp2:tmps.getD q undef= .pointer (some ⟨g2,0,none⟩)) (hg2:Box w g2 cs2 t2) (hu2:P.underlying ty2=some d2)
  (hd2:(match d2 with| .struct _| .array _ _=>true| _=>false)=true) (hi2:(P.info? ty2).map (·.size)=some cs2.size)
  (k:R (.returned (.tuple #[.agg cs,.agg cs2])) w):bodyPost P fn R .ret { tmps:=tmps,defers:=[] } w:=by
 refine bodyPost_ret ?_ rfl k
 have e:(results fn tmps).run P w=((asAddr (tmps.getD p undef)).run P w).andThen fun a w₁=>((loadVar ty a).run P w₁).andThen fun v w₂=>((asAddr (tmps.getD q undef)).run P w₂).andThen fun a w₁=>((loadVar ty2 a).run P w₁).andThen fun v2 w₂=>.ok (.tuple #[v,v2]) w₂:=by
  simp only [results,h]
  simp [Sem.run_bind,Result.andThen]
 rw [e,hp,hp2]
 simp only [asAddr,Sem.run_pure,Result.andThen_ok]
 rw [run_loadVar_row w g t ty cs (0,0) d hg hu hd hi]
 simp only [Result.andThen_ok,Sem.run_pure]
 rw [run_loadVar_row w g2 t2 ty2 cs2 (0,0) d2 hg2 hu2 hd2 hi2]
 rfl
theorem Nm.inj {w:World} {v:Value} {m n:Nat} (h:Nm w v m) (k:Nm w v n):m=n:=by
 obtain ⟨p,c,rfl, -, -, h1⟩:=Gs.read h.gs
 obtain ⟨p',c',e, -, -, h2⟩:=Gs.read k.gs
 simp only [Value.slice.injEq] at e
 obtain ⟨rfl,hl,rfl⟩:=e
 have:digs 10000 m=digs 10000 n:=by
  refine List.ext_getElem hl fun i hi hi2=>?_
  obtain ⟨b,o,e, -, hc⟩:=h1 i hi
  obtain ⟨b',o',e', -, hc'⟩:=h2 i hi2
  rw [e] at e'
  simp only [Option.some.injEq,Addr.mk.injEq,and_true] at e'
  obtain ⟨rfl,rfl⟩:=e'
  rw [hc] at hc'
  simp only [Option.some.injEq,Value.int.injEq,true_and] at hc'
  rw [List.getD_eq_getElem?_getD,List.getD_eq_getElem?_getD,List.getElem?_eq_getElem hi,List.getElem?_eq_getElem hi2] at hc'
  simpa using Int.ofNat_inj.mp hc'
 rw [← val_digs (B:=10000) zo m,this,val_digs zo]
open Classical in
noncomputable def nmOf (w:World) (v:Value):Nat:=if h:∃ n,Nm w v n then h.choose else 0
theorem nmOf_eq {w:World} {v:Value} {n:Nat} (h:Nm w v n):nmOf w v=n:=by
 unfold nmOf
 rw [dif_pos ⟨n,h⟩]
 exact Nm.inj (Exists.choose_spec (⟨n,h⟩:∃ n,Nm w v n)) h
theorem Divisor_ok (x y:Value) (a b:Int) (w:World) (hx:Pl w x a) (hy:Pl w y b) (ha:sz 10000 a.natAbs≤274877906944) (hb:sz 10000 b.natAbs≤274877906944) :
  Calls Tryz.prog 169 #[x,y] w (PlPost w (Nat.gcd a.natAbs b.natAbs)):=by
 obtain ⟨bA,paA,lA,caA,rfl⟩:=hx.agg
 obtain ⟨bB,paB,lB,caB,rfl⟩:=hy.agg
 have NA:=zh hx.nm.1
 have NB:=zh hy.nm.1
 obtain ⟨G,EG⟩:∃ G,Nat.gcd a.natAbs b.natAbs=G:=⟨_,rfl⟩
 rw [EG]
 have HG:=zh EG
 have KA:=zh ha
 have KB:=zh hb
 have h0:Below w.heap.size w (((w.alloc (.cells #[.bool bA,.slice paA lA caA] 121)).alloc (.cells #[.bool bB,.slice paB lB caB] 121)).alloc (.cells #[.bool false,.slice none 0 0] 121)):=belA
 obtain ⟨W,EW⟩:∃ y,((w.alloc (.cells #[.bool bA,.slice paA lA caA] 121)).alloc (.cells #[.bool bB,.slice paB lB caB] 121)).alloc (.cells #[.bool false,.slice none 0 0] 121)=y:=⟨_,rfl⟩
 have hx1:Box W w.heap.size #[.bool bA,.slice paA lA caA] 121:=by rw [← EW];exact boxA
 have hx2:Box W (w.heap.size+1) #[.bool bB,.slice paB lB caB] 121:=by rw [← EW];exact boxA
 have hx3:Box W (w.heap.size+1+1) #[.bool false,.slice none 0 0] 121:=by rw [← EW];exact Box.at2 _ _ _ _ _
 rw [EW] at h0
 have c1:=hx1.cell
 have c2:=hx2.cell
 have l1:=hx1.lt
 have l2:=hx2.lt
 have HX3:=zh hx3
 clear EG hx hy ha hb hx1 hx2 hx3
 go_enter Tryz.func169,Tryz.ntmps169
 go_wp2_with fail
 go_quiet (fail)
 clear EW c1 c2 l1 l2
 have hq:Below W.heap.size W (W.drewN nq):=below_drewN (Below.refl _ _) _
 obtain ⟨W1,E1⟩:∃ y,W.drewN nq=y:=⟨_,rfl⟩
 rw [E1] at hq ⊢
 clear E1
 replace HX3:=zh (HX3.out.later hq)
 have h1:=Bt h0 hq
 have HA1:=zh (NA.out.later h1)
 have HB1:=zh (NB.out.later h1)
 clear hq h0 NA NB
 go_wp2_with fail
 go_loopw [5,6,7,8] (fun xv yv _ _ wr=>∃ p q:Nat,Hid (Nm wr xv p)∧Hid (Nm wr yv q)∧Hid (Nat.gcd p q=G)∧Hid (sz 10000 p≤274877906944)∧Hid (sz 10000 q≤274877906944)∧Hid (Below W1.heap.size W1 wr)) (fun _ yv _ _ wr=>nmOf wr yv)
 case atStart=>exact ⟨_,_,HA1,HB1,HG,KA,KB,zh (Below.refl _ _)⟩
 case round =>
  clear HA1 HB1
  obtain ⟨p,q,HP,HQ,HPG,KP,KQ,HB⟩:=hrel
  obtain ⟨pp,lp,cp,rfl⟩:=HP.out.slice
  obtain ⟨pq,lq,cq,rfl⟩:=HQ.out.slice
  rcases Nat.eq_zero_or_pos q with h0|h0
  ·subst h0
   have hl:=HQ.out.len0 rfl
   subst hl
   have hpg:Hid (p=G):=zh (by have:=HPG.out;rwa [Nat.gcd_zero_right] at this)
   have hres:=HX3.out.later HB.out
   have cr:=hres.cell
   have fr:=hres.free
   go_wp2_with fail
   refine ret_c rfl rfl boxA Tryz.underlying121 rfl zk ?_
   have hlt:=HX3.out.lt
   have hB2:Below w.heap.size w wr:=Bt h1 HB.out
   refine ⟨_,rfl,belA,Pl.mk (n:=p) ((HP.out.setOther hres zd 0 _).setOther (hres.set 0 _) zd 1 _) (by rw [hpg.out];rfl) ?_⟩
   simp
  ·have hl:=HQ.out.lenp h0
   have HPT:=zh (parts_ok _ _ p q wr HP.out HQ.out h0 KP.out KQ.out)
   have H0:=zh h0
   clear h0
   go_wp2_with fail
   refine HPT.out.mono ?_
   rintro e w2 ⟨qv,rv,rfl,hb2,hq2,hr2⟩
   obtain ⟨p3,l3,c3,rfl⟩:=hq2.slice
   obtain ⟨p4,l4,c4,rfl⟩:=hr2.slice
   have HR2:=zh hr2
   have HQ2:=zh (HQ.out.later hb2)
   have HB2:=zh (Bt HB.out hb2)
   clear hr2 hq2 hb2 HPT
   go_wp2_with fail
   go_roundw
   case rel =>
    refine ⟨q,p%q,HQ2,HR2,zh ?_,KQ,zh ?_,HB2⟩
    ·rw [Nat.gcd_comm,← Nat.gcd_rec,Nat.gcd_comm]
     exact HPG.out
    ·exact Nat.le_trans (sz_mono zo (Nat.mod_le _ _)) KP.out
   case measure =>
    rw [nmOf_eq HR2.out,nmOf_eq HQ.out]
    exact Nat.mod_lt _ H0.out
end Go.Proofs.verdigrisref01
namespace Go.Proofs.verdigrisref01
open Go Go.RowKit Go.SW Go.Num Go.Mem Go.Proofs
theorem sgd_div {a b:Int} (hb:0<b) (h:0≤a∨b ∣ a):sgd (a.natAbs / b.natAbs) (decide (a<0))=a / b∧sgd (a.natAbs%b.natAbs) (decide (a<0))=a%b∧0≤a%b:=by
 have hm:=Int.emod_nonneg a (show b≠0 by omega)
 rcases h with h|h
 ·have h1:¬ a<0:=by omega
  unfold sgd
  simp only [h1,decide_false,Bool.false_eq_true,if_false]
  obtain ⟨x,rfl⟩:=Int.eq_ofNat_of_zero_le h
  obtain ⟨y,rfl⟩:=Int.eq_ofNat_of_zero_le (Int.le_of_lt hb)
  simp only [Int.natAbs_natCast]
  exact ⟨by rw [Int.natCast_ediv],by rw [Int.natCast_emod],hm⟩
 ·have e1:a%b=0:=Int.emod_eq_zero_of_dvd h
  have e2:a.natAbs%b.natAbs=0:=Nat.mod_eq_zero_of_dvd (Int.natAbs_dvd_natAbs.2 h)
  refine ⟨?_,by rw [e1,e2];unfold sgd;simp,hm⟩
  obtain ⟨c,rfl⟩:=h
  have h2:=sgd_quot (z:=b*c) (y:=b) ⟨c,rfl⟩
  have h3:¬ b<0:=by omega
  simpa [h3] using h2
def Parts2Post (w:World) (q r:Int) (e:Ending) (w':World):Prop:=∃ x y,e= .returned (.tuple #[x,y])∧Below w.heap.size w w'∧Pl w' x q∧Pl w' y r
theorem Parts_ok (x y:Value) (a b:Int) (w:World) (hx:Pl w x a) (hy:Pl w y b) (ha:sz 10000 a.natAbs≤274877906944) (hb:sz 10000 b.natAbs≤274877906944) (hb0:0<b) (hd:0≤a∨b ∣ a) :
  Calls Tryz.prog 185 #[x,y] w (Parts2Post w (a / b) (a%b)):=by
 obtain ⟨bA,paA,lA,caA,rfl⟩:=hx.agg
 obtain ⟨bB,paB,lB,caB,rfl⟩:=hy.agg
 obtain ⟨nA,eA⟩:=hx.nm
 obtain ⟨nB,eB⟩:=hy.nm
 have hbf:bB=false:=by rw [eB];simp;omega
 subst hbf
 obtain ⟨s1,s2,s3⟩:=sgd_div hb0 hd
 rw [← eA] at s1 s2
 have NAn:=zh nA
 have NBn:=zh nB
 have KA:=zh ha
 have KB:=zh hb
 have H0:Hid (0<b.natAbs):=zh zo
 have HS1:=zh s1
 have HS2:=zh s2
 have HS3:=zh s3
 clear hx hy ha hb hb0 hd nA nB eA eB s1 s2 s3
 go_enter Tryz.func185,Tryz.ntmps185
 go_wp2_with fail
 obtain ⟨wq1,EW,hz,X1,X2,X3,X4⟩:=al4 w #[.bool bA,.slice paA lA caA] 121 #[.bool false,.slice paB lB caB] 121 #[.bool false,.slice none 0 0] 121 #[.bool false,.slice none 0 0] 121
 rw [EW]
 replace NAn:=zh (NAn.out.later hz)
 have hk2:=Bt (Below.refl _ _) hz
 clear EW hz
 refine (parts_ok _ _ _ _ _ NAn.out (NBn.out.later hk2) H0.out KA.out KB.out).mono ?_
 rintro e wc3 ⟨q,r,rfl,hb3,hq,hr⟩
 obtain ⟨paQ,lQ,caQ,rfl⟩:=hq.slice
 obtain ⟨paR,lR,caR,rfl⟩:=hr.slice
 replace NAn:=zh (NAn.out.later hb3)
 replace X1:=X1.bl hb3
 replace X2:=X2.bl hb3
 replace X3:=X3.bl hb3
 replace X4:=X4.bl hb3
 have hk5:=Bt hk2 hb3
 clear hk2
 have NQ:=zh hq
 have NR:=zh hr
 clear hb3 hq hr
 have HL4:=zh X4.out.lt
 go_wp2_with fail
 obtain ⟨cX1,lX1,fX1⟩:=X1.clf
 obtain ⟨cX2,lX2,fX2⟩:=X2.clf
 refine wp_region_walk [(.pure,0),(.read,1),(.pure,2),(.read,3),(.pure,4),(.pure,5),(.pure,7),(.read,8),(.pure,9),(.ext,6),(.ext,10),(.alloc #[.bool false,.slice none 0 0] 121,11),(.alloc #[.bool false,.slice none 0 0] 121,12),(.fin,13),(.fin,14)] zk zk zR zP ?_
 repeat (first|(refine walk_pure0 rfl rfl fun J h=>?_;go_simp;refine h _ ?_;clear h J)|(refine walk_load rfl rfl rfl rfl fun J h=>?_;go_simp;refine h _ ?_;clear h J;try go_simp))
 refine walk_ext rfl rfl (fun we6 hb6 J hJ=>?_);go_simp
 have hh6:Below wc3.heap.size wc3 we6:=belA
 clear hb6
 refine (made_nm _ _ _ _ _ (NQ.out.later hh6) HS1.out).mono ?_
 rintro e wc7 ⟨v,rfl,hb7,hv8⟩
 obtain ⟨bU,paU,lU,caU,rfl⟩:=hv8.agg
 refine hJ _ _ hb7 ?_
 clear hJ J
 have hh7:=Bt hh6 hb7
 have NU:=zh hv8
 clear hh6 hb7 hv8
 repeat (first|(refine walk_pure0 rfl rfl fun J h=>?_;go_simp;refine h _ ?_;clear h J)|(refine walk_load rfl rfl rfl rfl fun J h=>?_;go_simp;refine h _ ?_;clear h J;try go_simp))
 refine walk_ext rfl rfl (fun we9 hb9 J hJ=>?_);go_simp
 have hh9:Below wc3.heap.size wc3 we9:=Bt hh7 belA
 replace NU:=zh (NU.out.later (show Below wc7.heap.size wc7 we9 from belA))
 clear hb9 hh7
 refine (made_nm _ _ _ _ _ (NR.out.later hh9) HS2.out).mono ?_
 rintro e wc10 ⟨v,rfl,hb10,hv⟩
 obtain ⟨bV,paV,lV,caV,rfl⟩:=hv.agg
 have hbv:bV=false:=hv.nm.2.trans (decide_eq_false (by have:=HS3.out;omega))
 subst hbv
 refine hJ _ _ hb10 ?_
 clear hJ J
 have hh10:=Bt hh9 hb10
 replace NU:=zh (NU.out.later hb10)
 have NV:=zh hv
 clear hh9 hb10 hv
 repeat (first|(refine walk_pure0 rfl rfl fun J h=>?_;go_simp;refine h _ ?_;clear h J)|(refine walk_load rfl rfl rfl rfl fun J h=>?_;go_simp;refine h _ ?_;clear h J;try go_simp))
 refine walk_alloc rfl (fun bk12 wa12 hwa12 hNbk12 hltbk12 hAbk12 hxbk12=>?_);go_simp;replace hxbk12:Box _ _ _ _:=hxbk12;have hWbk12:w.heap.size≤bk12:=(by first|omega|exact Nat.le_trans (Below.size (B:=w.heap.size) belA) hNbk12)
 refine walk_alloc rfl (fun bk13 wa13 hwa13 hNbk13 hltbk13 hAbk13 hxbk13=>?_);go_simp;replace hxbk13:Box _ _ _ _:=hxbk13;have hWbk13:w.heap.size≤bk13:=(by first|omega|exact Nat.le_trans (Below.size (B:=w.heap.size) belA) hNbk13)
 replace hxbk12:=Box.later hxbk12 hwa13
 have hne:bk12≠bk13:=fun h=>hAbk13 (by simp [h])
 have hne2:bk13≠bk12:=fun h=>hne h.symm
 refine walk_fin [_,_] rfl (fun wf14 hf14=>?_)
 replace NU:=zh (NU.out.later (show Below wc10.heap.size wc10 wf14 from belA))
 replace NV:=zh (NV.out.later (show Below wc10.heap.size wc10 wf14 from belA))
 have hh14:Below wc3.heap.size wc3 wf14:=Bt hh10 belA
 have hq0:=hxbk12.later hf14;have cq0:=hq0.cell;have fq0:=hq0.free
 have hq1:=hxbk13.later hf14;have cq1:=hq1.cell;have fq1:=hq1.free
 clear hxbk12 hxbk13 hf14 hh10
 clear cX1 lX1 fX1 cX2 lX2 fX2
 go_wp2_with fail
 obtain ⟨wq15,EW⟩:∃ y,((((wf14.setCell ⟨bk12,0,none⟩ (.bool bU)).setCell ⟨bk12,1,none⟩ (.slice paU lU caU)).setCell ⟨bk13,0,none⟩ (.bool false)).setCell ⟨bk13,1,none⟩ (.slice paV lV caV))=y:=⟨_,rfl⟩
 have hz:Below wc3.heap.size wc3 wq15:=by rw [← EW];exact ((((hh14.setCell hNbk12 _).setCell hNbk12 _).setCell hNbk13 _).setCell hNbk13 _)
 have X5:Hid (Box wq15 bk12 #[.bool bU,.slice paU lU caU] 121):=zh (by rw [← EW];exact ((((hq0.set 0 _).set 1 _).setOther _ (by first|exact hne|exact hne2)).setOther _ (by first|exact hne|exact hne2)))
 have X6:Hid (Box wq15 bk13 #[.bool false,.slice paV lV caV] 121):=zh (by rw [← EW];exact ((((hq1.setOther _ (by first|exact hne|exact hne2)).setOther _ (by first|exact hne|exact hne2)).set 0 _).set 1 _))
 have t:=((((NU.out.setOther hq0 zd 0 (.bool bU)).setOther (hq0.set 0 _) zd 1 (.slice paU lU caU)).setOther ((hq1.setOther _ (by first|exact hne|exact hne2)).setOther _ (by first|exact hne|exact hne2)) zd 0 (.bool false)).setOther (((hq1.setOther _ (by first|exact hne|exact hne2)).setOther _ (by first|exact hne|exact hne2)).set 0 _) zd 1 (.slice paV lV caV))
 rw [EW] at t
 replace NU:=zh t
 clear t
 have t:=((((NV.out.setOther hq0 zd 0 (.bool bU)).setOther (hq0.set 0 _) zd 1 (.slice paU lU caU)).setOther ((hq1.setOther _ (by first|exact hne|exact hne2)).setOther _ (by first|exact hne|exact hne2)) zd 0 (.bool false)).setOther (((hq1.setOther _ (by first|exact hne|exact hne2)).setOther _ (by first|exact hne|exact hne2)).set 0 _) zd 1 (.slice paV lV caV))
 rw [EW] at t
 replace NV:=zh t
 clear t
 rw [EW]
 clear EW hq0 cq0 fq0 hq1 cq1 fq1 hh14
 clear NAn
 replace X1:=X1.bl hz
 replace X2:=X2.bl hz
 replace X3:=X3.bl hz
 replace X4:=X4.bl hz
 replace NQ:=zh (NQ.out.later hz)
 replace NR:=zh (NR.out.later hz)
 have hk16:=Bt hk5 hz
 clear hk5
 clear hz
 clear hwa12 hAbk12 hAbk13 hWbk12 hWbk13 hwa13
 have hlbk12:=hNbk12;have hlbk13:=hNbk13;clear hNbk12 hNbk13 hltbk12 hltbk13
 have c5:=X5.out.cell
 have c6:=X6.out.cell
 have c3:=X3.out.cell
 have c4:=X4.out.cell
 have f3:=X3.out.free
 have f4:=X4.out.free
 have hl4:=HL4.out
 have n1:bk13≠w.heap.size+1+1:=by omega
 have n2:bk13≠w.heap.size+1+1+1:=by omega
 have n3:bk12≠w.heap.size+1+1:=by omega
 have n4:bk12≠w.heap.size+1+1+1:=by omega
 have h3:=X3.out
 have h4:=X4.out
 clear X1 X2 X5 X6 NQ NR HS1 HS2 HS3 H0 KA KB NBn hne hne2 hl4 HL4 hlbk12 hlbk13
 go_region
 go_wp2_with fail
 have h4b:=(h4.setOther (a:=⟨w.heap.size+1+1,0,none⟩) (.bool bU) zi).setOther (a:=⟨w.heap.size+1+1,1,none⟩) (.slice paU lU caU) zi
 have h3b:=(((h3.set 0 (.bool bU)).set 1 (.slice paU lU caU)).setOther (a:=⟨w.heap.size+1+1+1,0,none⟩) (.bool false) zi).setOther (a:=⟨w.heap.size+1+1+1,1,none⟩) (.slice paV lV caV) zi
 have hU:=(NU.out.set2 h3 zd 0 1 (.bool bU) (.slice paU lU caU)).set2 h4b zd 0 1 (.bool false) (.slice paV lV caV)
 have hV:=(NV.out.set2 h3 zd 0 1 (.bool bU) (.slice paU lU caU)).set2 h4b zd 0 1 (.bool false) (.slice paV lV caV)
 refine ret_cc rfl rfl (Box.drew h3b) Tryz.underlying121 rfl zk rfl (Box.drew ((h4b.set 0 (.bool false)).set 1 (.slice paV lV caV))) Tryz.underlying121 rfl zk ?_
 exact ⟨_,_,rfl,belA,hU.later (Below.drew (Below.refl _ _)),hV.later (Below.drew (Below.refl _ _))⟩
end Go.Proofs.verdigrisref01
namespace Go.Proofs.verdigrisref01
open Go Go.RowKit Go.SW Go.Num Go.Mem Go.Proofs Go.Dec
theorem four_ok (d:Nat) (hd:d<10000) (w:World) :
  Calls Tryz.prog 218 #[.int .i64 (d:Int)] w fun e w'=>e= .returned (.string ⟨(pad 4 d).toArray⟩)∧Below w.heap.size w w':=by
 have hp:pad 4 d=[UInt8.ofNat (48+d / 1000),UInt8.ofNat (48+d / 100%10),UInt8.ofNat (48+d / 10%10),UInt8.ofNat (48+d%10)]:=by
  simp only [pad,List.nil_append,List.cons_append]
  rw [show d / 10 / 10 / 10%10=d / 1000 by omega,show d / 10 / 10%10=d / 100%10 by omega]
 have hb:∀ x:Nat,x<10→((UInt8.ofNat (48+x)).toNat:Int)=48+(x:Int):=fun x hx=>by
  rw [byte_digit hx];omega
 have e1:=hb (d / 1000) zo
 have e2:=hb (d / 100%10) zo
 have e3:=hb (d / 10%10) zo
 have e4:=hb (d%10) zo
 have hcv:(convert 172 9 (.slice (some ⟨w.heap.size,0,none⟩) 4 4)).run Tryz.prog (w.alloc (.cells #[.int .u8 (48+(d:Int) / 1000),.int .u8 (48+(d:Int) / 100%10),.int .u8 (48+(d:Int) / 10%10),.int .u8 (48+(d:Int)%10)] 5))
   = .ok (.string ⟨(pad 4 d).toArray⟩) (w.alloc (.cells #[.int .u8 (48+(d:Int) / 1000),.int .u8 (48+(d:Int) / 100%10),.int .u8 (48+(d:Int) / 10%10),.int .u8 (48+(d:Int)%10)] 5)):=by
  have hx:=Box.new w #[.int .u8 (48+(d:Int) / 1000),.int .u8 (48+(d:Int) / 100%10),.int .u8 (48+(d:Int) / 10%10),.int .u8 (48+(d:Int)%10)] 5
  have hl:=pad_length 4 d
  have:=run_convert_bytes_back (P:=Tryz.prog) (w.alloc (.cells #[.int .u8 (48+(d:Int) / 1000),.int .u8 (48+(d:Int) / 100%10),.int .u8 (48+(d:Int) / 10%10),.int .u8 (48+(d:Int)%10)] 5)) 172 9 5 ⟨w.heap.size,0,none⟩ 4 (pad 4 d) Tryz.underlying172 Tryz.underlying5 Tryz.underlying9 (fun j hj=>by
   rw [Addr.add_lit,hx.cell,Nat.zero_add]
   rw [hl] at hj
   match j,hj with
   | 0,_=>simp only [hp,List.getElem_cons_zero,e1];rfl
   | 1,_=>simp only [hp,List.getElem_cons_zero,List.getElem_cons_succ,e2];rfl
   | 2,_=>simp only [hp,List.getElem_cons_zero,List.getElem_cons_succ,e3];rfl
   | 3,_=>simp only [hp,List.getElem_cons_zero,List.getElem_cons_succ,e4];rfl)
  rwa [hl] at this
 obtain ⟨B,EB⟩:∃ B:ByteArray,Hid ((⟨(pad 4 d).toArray⟩:ByteArray)=B):=⟨_,zh rfl⟩
 rw [EB.out] at hcv ⊢
 clear e1 e2 e3 e4 hb hp EB
 go_enter Tryz.func218,Tryz.ntmps218
 go_wp2
 go_ret
 exact ⟨rfl,belA⟩
def txt:List Nat→List UInt8
 | []=>[]
 | d::l=>txt l++pad 4 d
theorem txt_drop {l:List Nat} {i:Nat} (h:i<l.length):txt (l.drop i)=txt (l.drop (i+1))++pad 4 (l.getD i 0):=by
 rw [drop_getD h]
 rfl
theorem txt_dec:∀ {l:List Nat},Dig 10000 l→Top l→l≠[]→∃ m,txt l=List.replicate m 48++Lib.decDigits (val 10000 l)
 | [],_,_,h=>absurd rfl h
 | d::l,hd,ht,_=>by
  by_cases hl:l=[]
  ·subst hl
   refine ⟨4 - (Lib.decDigits d).length,?_⟩
   have h1:=dec_fill 4 d zo (by have:=hd.head;omega)
   show []++pad 4 d=_
   rw [← h1]
   simp [val]
  ·obtain ⟨m,hm⟩:=txt_dec hd.tail ht.tail hl
   refine ⟨m,?_⟩
   have hp:=val_pos_of_top (B:=10000) zo ht.tail hl
   show txt l++pad 4 d=_
   rw [hm,List.append_assoc,← dec_pad 4 _ d hp (by have:=hd.head;omega)]
   simp only [val]
   rw [show val 10000 l*10^4+d=d+10000*val 10000 l by omega]
theorem txt_len (l:List Nat):(txt l).length=4*l.length:=by
 induction l with
 | nil=>rfl
 | cons d l ih=>show (txt l++pad 4 d).length=_;rw [List.length_append,ih,pad_length,List.length_cons];omega
theorem strip_dec {l:List Nat} {k:Nat} (hd:Dig 10000 l) (ht:Top l) (h:∀ i,i<k→(txt l)[i]? =some 48) (hk:k<(txt l).length) (hne:(txt l)[k]? ≠some 48):(txt l).drop k=Lib.decDigits (val 10000 l):=by
 have hl:l≠[]:=fun e=>by subst e;cases hk
 have hp:=val_pos_of_top (B:=10000) zo ht hl
 obtain ⟨m,hm⟩:=txt_dec hd ht hl
 have hkm:k=m:=by
  rcases Nat.lt_trichotomy k m with h1|h1|h1
  ·exfalso
   rw [hm,List.getElem?_append_left (by simpa using h1)] at hne
   simp [h1] at hne
  ·exact h1
  ·exfalso
   have h2:=h m h1
   rw [hm,List.getElem?_append_right zi] at h2
   simp only [List.length_replicate,Nat.sub_self] at h2
   have:=dec_head (n:=val 10000 l) (by rw [List.head?_eq_getElem?];exact h2)
   omega
 subst hkm
 rw [hm,List.drop_append_of_le_length zi,List.drop_of_length_le zi,List.nil_append]
theorem strip_all {l:List Nat} (hd:Dig 10000 l) (ht:Top l) (h:∀ i,i<(txt l).length→(txt l)[i]? =some 48):val 10000 l=0:=by
 by_cases hl:l=[]
 ·subst hl;rfl
 ·exfalso
  have hp:=val_pos_of_top (B:=10000) zo ht hl
  obtain ⟨m,hm⟩:=txt_dec hd ht hl
  have h2:=h m (by rw [hm,List.length_append,List.length_replicate];have:=dec_len_pos (val 10000 l);omega)
  rw [hm,List.getElem?_append_right zi] at h2
  simp only [List.length_replicate,Nat.sub_self] at h2
  have:=dec_head (n:=val 10000 l) (by rw [List.head?_eq_getElem?];exact h2)
  omega
theorem ba_eq {a b:ByteArray} (h:a.data.toList=b.data.toList):a=b:=by
 cases a;cases b
 simp only at h
 rw [Array.toList_inj.1 h]
theorem itoa_abs (z:Int):Lib.itoa z=if z<0 then 45::Lib.decDigits z.natAbs else Lib.decDigits z.natAbs:=by
 unfold Lib.itoa
 by_cases h:z<0
 ·rw [if_pos h,if_pos h]
 ·rw [if_neg h,if_neg h,show z.toNat=z.natAbs by omega]
theorem extract_list (S:ByteArray) (k:Nat):(S.extract k S.size).data.toList=S.data.toList.drop k:=by
 have h:S.size=S.data.toList.length:=rfl
 rw [ByteArray.data_extract,Array.toList_extract]
 unfold List.extract
 rw [List.take_of_length_le (by rw [List.length_drop,h];exact Nat.le_refl _)]
theorem Text_ok (x:Value) (z:Int) (w:World) (hx:Pl w x z) (hs:sz 10000 z.natAbs≤1073741824) :
  Calls Tryz.prog 168 #[x] w (fun e w'=>e= .returned (.string ⟨(Lib.itoa z).toArray⟩)∧Below w.heap.size w w'):=by
 obtain ⟨bA,paA,lA,caA,rfl⟩:=hx.agg
 obtain ⟨hn,hbz⟩:=hx.nm
 obtain ⟨l,El⟩:∃ l,digs 10000 z.natAbs=l:=⟨_,rfl⟩
 obtain ⟨pa',ca',e,k1,k2,k3⟩:=hn.read
 simp only [Value.slice.injEq] at e
 obtain ⟨rfl,rfl,rfl⟩:=e
 rw [El] at k3
 have hl:l.length=sz 10000 z.natAbs:=by rw [← El];rfl
 have hdl:Dig 10000 l:=by rw [← El];exact dig_digs zo _
 have htl:Top l:=by rw [← El];exact top_digs zo _
 have hvl:val 10000 l=z.natAbs:=by rw [← El];exact val_digs zo _
 obtain ⟨L,EL⟩:∃ L,sz 10000 z.natAbs=L:=⟨_,rfl⟩
 rw [EL] at hl hs k1 k3 ⊢
 have h0:Below w.heap.size w (w.alloc (.cells #[.bool bA,.slice paA L caA] 121)):=belA
 have hbx:=Box.new w #[.bool bA,.slice paA L caA] 121
 obtain ⟨W,EW⟩:∃ y,w.alloc (.cells #[.bool bA,.slice paA L caA] 121)=y:=⟨_,rfl⟩
 rw [EW] at h0 hbx
 have k4:∀ k,k<L→∃ b off,paA=some ⟨b,off,none⟩∧b<W.heap.size∧W.cell? ⟨b,off+k,none⟩=some (.int .i64 (l.getD k 0:Nat)):=fun k hk=>by
  obtain ⟨b,off,e,h1,h2⟩:=k3 k hk
  exact ⟨b,off,e,Nat.lt_of_lt_of_le h1 h0.size,(h0.cell (by exact h1)).trans h2⟩
 have K4:=zh k4
 have HX:=zh hbx
 have HL:=zh hl
 have HDL:=zh hdl
 have HTL:=zh htl
 have HVL:=zh hvl
 have HBZ:=zh hbz
 have c0:=hbx.cell
 clear k3 k4 hbx hl hdl htl hvl hbz hn hx EL El
 go_enter Tryz.func168,Tryz.ntmps168
 go_wp2_with fail
 clear EW c0
 go_loopw [3,4] (fun sv iv wr=>∃ (q:Int) (S:ByteArray), -1≤q∧q<L∧iv= .int .i64 q∧sv= .string S∧Hid (S.data.toList=txt (l.drop (q+1).toNat))∧Hid (Below W.heap.size W wr)) (fun _ iv _=>(intOf iv+1).toNat)
 case atStart =>
  have e:((L:Int) - 1+1).toNat=l.length:=by have:=HL.out;omega
  exact ⟨(L:Int) - 1,⟨#[]⟩,by omega,by omega,rfl,rfl,zh (by rw [e,List.drop_length];rfl),zh (Below.refl _ _)⟩
 case round =>
  obtain ⟨q,S,hq1,hq2,rfl,rfl,HS,HB⟩:=hrel
  have hbx:=HX.out.later HB.out
  have c0:=hbx.cell
  by_cases hq:q<0
  ·have hq0:q= -1:=by omega
   subst hq0
   have hS:S.data.toList=txt l:=by have:=HS.out;simpa using this
   have HS2:=zh hS
   clear hS HS
   have hsz:S.size=4*L:=by
    have h1:S.size=S.data.toList.length:=rfl
    rw [h1,HS2.out,txt_len,HL.out]
   go_wp2_with fail
   go_loop [5] (fun kv=>∃ k:Nat,k≤S.size∧kv= .int .i64 k∧Hid (∀ i,i<k→S.data.toList[i]? =some 48)) (fun kv=>S.size - (intOf kv).toNat)
   case atStart=>exact ⟨0,Nat.zero_le _,rfl,zh fun i hi=>by cases hi⟩
   case round =>
    obtain ⟨k,hk,rfl,HK⟩:=hrel
    by_cases hks:k<S.size
    ·have hg:(txt l)[k]? =some S[k]:=by
      rw [← HS2.out]
      exact List.getElem?_eq_getElem (by exact hks)
     by_cases h48:S[k]=48
     ·have e:((S[k].toNat:Int) == 48)=true:=by rw [h48];rfl
      have HK1:Hid (∀ i,i<k+1→S.data.toList[i]? =some 48):=zh fun i hi=>by
       by_cases hik:i<k
       ·exact HK.out i hik
       ·obtain rfl:i=k:=by omega
        rw [HS2.out,hg,h48]
      clear hg h48
      go_wp2_with fail
      go_round
      case rel=>exact ⟨k+1,by omega,by go_num,HK1⟩
      case measure=>exact zM
     ·have e:((S[k].toNat:Int) == 48)=false:=by
       rw [beq_eq_false_iff_ne]
       intro h
       have hk48:S[k].toNat=48:=by omega
       exact h48 (UInt8.toNat_inj.1 (by rw [hk48];rfl))
      have hdrop:=strip_dec HDL.out HTL.out (fun i hi=>by rw [← HS2.out];exact HK.out i hi) (by rw [← HS2.out];exact hks) (by rw [hg];intro h;exact h48 (Option.some.inj h))
      have hT:(S.extract k (4*L)).data.toList=Lib.decDigits z.natAbs:=by
       rw [← hsz,extract_list,HS2.out,hdrop,HVL.out]
      have hE:(S.extract k (4*L)).toList.isEmpty=false:=by
       rw [ByteArray.toList_eq,hT]
       have:=dec_len_pos z.natAbs
       cases h:Lib.decDigits z.natAbs with
       | nil=>rw [h] at this;cases this
       | cons a b=>rfl
      have HT:=zh hT
      clear hdrop hT hg h48 HK
      cases bA
      ·have hz:¬ z<0:=by have:=HBZ.out;intro h;rw [decide_eq_true h] at this;cases this
       have eS:S.extract k (4*L)=⟨(Lib.itoa z).toArray⟩:=ba_eq (by rw [HT.out,itoa_abs,if_neg hz])
       have ES:=zh eS
       clear eS hz
       go_wp2_with fail
       go_ret
       exact ⟨congrArg (fun s=>Ending.returned (.string s)) ES.out,Bt h0 HB.out⟩
      ·have hz:z<0:=of_decide_eq_true HBZ.out.symm
       have eS:(⟨#[45]⟩:ByteArray)++S.extract k (4*L)=⟨(Lib.itoa z).toArray⟩:=ba_eq (by
        rw [itoa_abs,if_pos hz,ByteArray.data_append,Array.toList_append,HT.out]
        rfl)
       have ES:=zh eS
       have hsm:¬ 9223372036854775807<1+(S.extract k (4*L)).size:=by
        have h1:(S.extract k (4*L)).size=(S.extract k (4*L)).data.toList.length:=rfl
        have h2:=HT.out
        rw [← hsz,extract_list] at h2
        have h3:(S.extract k (4*L)).data.toList.length≤S.data.toList.length:=by
         rw [← hsz,extract_list,List.length_drop]
         omega
        have h4:S.data.toList.length=S.size:=rfl
        omega
       clear eS hz
       go_wp2_with fail
       go_ret
       exact ⟨congrArg (fun s=>Ending.returned (.string s)) ES.out,Bt h0 HB.out⟩
    ·have hke:k=S.size:=by omega
     subst hke
     have hz0:z.natAbs=0:=by
      rw [← HVL.out]
      exact strip_all HDL.out HTL.out fun i hi=>by
       rw [← HS2.out] at hi ⊢
       exact HK.out i hi
     have hz:z=0:=by omega
     have EZ:Hid ((⟨#[48]⟩:ByteArray)=⟨(Lib.itoa z).toArray⟩):=zh (by rw [hz];exact ba_eq (by rw [itoa_abs];simp [dec_small]))
     clear hz hz0 HK
     go_wp2_with fail
     go_ret
     exact ⟨congrArg (fun s=>Ending.returned (.string s)) EZ.out,Bt h0 HB.out⟩
  ·obtain ⟨j,rfl⟩:=Int.eq_ofNat_of_zero_le (by omega:0≤q)
   have ej:((j:Int)+1).toNat=j+1:=by omega
   rw [ej] at HS
   obtain ⟨b,off,rfl,hb1,hc1⟩:=K4.out j zo
   have hcj:wr.cell? ⟨b,off+j,none⟩=some (.int .i64 (l.getD j 0:Nat)):=(HB.out.cell (by exact hb1)).trans hc1
   have hdj:=HDL.out.getD zo j
   have HST:Hid (txt (l.drop j)=S.data.toList++pad 4 (l.getD j 0)):=zh (by rw [HS.out];exact txt_drop (by rw [HL.out];omega))
   have HSL:Hid (S.data.toList.length=4*(L - (j+1))):=zh (by rw [HS.out,txt_len,List.length_drop,HL.out])
   clear HS hc1
   generalize l.getD j 0=d at *
   have HF:=zh (four_ok d hdj)
   have hsum:¬ 9223372036854775807<S.size+(pad 4 d).length:=by
    have h1:S.size=S.data.toList.length:=rfl
    rw [pad_length,h1,HSL.out]
    omega
   go_wp2_with fail
   refine (HF.out _).mono ?_
   rintro e w1 ⟨rfl,hb⟩
   have HB1:=zh (Bt HB.out hb)
   clear hb hbx c0 hcj
   go_wp2_with fail
   go_roundw
   case rel =>
    have e1:((j:Int) - 1+1).toNat=j:=by omega
    exact ⟨(j:Int) - 1,S++⟨(pad 4 d).toArray⟩,by omega,by omega,rfl,rfl,zh (by rw [e1,HST.out];simp),HB1⟩
   case measure=>simp [intOf]
theorem dec_len_sz (n:Nat):(Lib.decDigits n).length≤4*sz 10000 n+1:=by
 refine dec_len_le _ _ zo ?_
 have h1:=lt_pow_sz (B:=10000) zo n
 have h2:(10:Nat)^(4*sz 10000 n)=10000^sz 10000 n:=by rw [Nat.pow_mul]
 rw [Nat.pow_succ,h2]
 omega
def outV (z:Int):Value:=if Fra.okn z.natAbs then .tuple #[itxt z,.int .i64 0] else .tuple #[.string ⟨#[]⟩,.int .i64 6]
theorem itoa_len (z:Int):(Lib.itoa z).length=(Lib.decDigits z.natAbs).length+(if z<0 then 1 else 0):=by
 rw [itoa_abs]
 by_cases h:z<0
 ·rw [if_pos h,if_pos h];rfl
 ·rw [if_neg h,if_neg h];rfl
theorem Out_ok (x:Value) (z:Int) (w:World) (hx:Pl w x z) (hs:sz 10000 z.natAbs≤1073741824) :
  Calls Tryz.prog 134 #[x] w (fun e w'=>e= .returned (outV z)∧Below w.heap.size w w'):=by
 obtain ⟨bA,paA,lA,caA,rfl⟩:=hx.agg
 obtain ⟨hn,hbz⟩:=hx.nm
 have NA:=zh hx
 have hlen:=itoa_len z
 have hok:=Fra.okn_len (n:=z.natAbs)
 obtain ⟨S,ES⟩:∃ S:ByteArray,Hid (S=⟨(Lib.itoa z).toArray⟩):=⟨_,zh rfl⟩
 have hsz:S.size=(Lib.itoa z).length:=by rw [ES.out];simp [ByteArray.size]
 have hsb:(Lib.decDigits z.natAbs).length≤4294967297:=by
  have:=dec_len_sz z.natAbs
  omega
 have HT:=zh (fun W (hb:Below w.heap.size w W)=>Text_ok _ z W (hx.later hb) hs)
 rw [← ES.out] at HT
 have hv:outV z=if (Lib.decDigits z.natAbs).length≤600 then .tuple #[.string S,.int .i64 0] else .tuple #[.string ⟨#[]⟩,.int .i64 6]:=by
  unfold outV
  rw [ES.out]
  by_cases h:(Lib.decDigits z.natAbs).length≤600
  ·rw [if_pos h,if_pos (hok.2 h)];rfl
  ·rw [if_neg h,if_neg (fun h'=>h (hok.1 h'))]
 rw [hv]
 obtain ⟨n,En⟩:∃ n,(Lib.decDigits z.natAbs).length=n:=⟨_,rfl⟩
 rw [En] at hlen hsb ⊢
 rw [hlen] at hsz
 have h0:Below w.heap.size w (w.alloc (.cells #[.bool bA,.slice paA lA caA] 121)):=belA
 have hbx:=Box.new w #[.bool bA,.slice paA lA caA] 121
 have HBX:=zh hbx
 have HH0:=zh h0
 by_cases hz:z<0
 ·have hbt:bA=true:=by rw [hbz,decide_eq_true hz]
  subst hbt
  rw [if_pos hz] at hsz
  clear hz hlen hok hn hbz hv En hs hx NA h0 hbx
  by_cases hbig:n≤600
  ·rw [if_pos hbig]
   have e1:¬ (600:Int)<(n:Int)+1 - 1:=by omega
   go_enter Tryz.func134,Tryz.ntmps134
   go_wp2_with fail
   refine (HT.out _ HH0.out).mono ?_
   rintro e w1 ⟨rfl,hb⟩
   have c0:=(HBX.out.later hb).cell
   go_wp2_with fail
   go_ret2
   exact ⟨rfl,Bt HH0.out hb⟩
  ·rw [if_neg hbig]
   have e1:(600:Int)<(n:Int)+1 - 1:=by omega
   go_enter Tryz.func134,Tryz.ntmps134
   go_wp2_with fail
   refine (HT.out _ HH0.out).mono ?_
   rintro e w1 ⟨rfl,hb⟩
   have c0:=(HBX.out.later hb).cell
   go_wp2_with fail
   go_ret2
   exact ⟨rfl,Bt HH0.out hb⟩
 ·have hbt:bA=false:=by rw [hbz,decide_eq_false hz]
  subst hbt
  rw [if_neg hz,Nat.add_zero] at hsz
  clear hz hlen hok hn hbz hv En hs hx NA h0 hbx
  by_cases hbig:n≤600
  ·rw [if_pos hbig]
   have e1:¬ (600:Int)<(n:Int):=by omega
   go_enter Tryz.func134,Tryz.ntmps134
   go_wp2_with fail
   refine (HT.out _ HH0.out).mono ?_
   rintro e w1 ⟨rfl,hb⟩
   have c0:=(HBX.out.later hb).cell
   go_wp2_with fail
   go_ret2
   exact ⟨rfl,Bt HH0.out hb⟩
  ·rw [if_neg hbig]
   have e1:(600:Int)<(n:Int):=by omega
   go_enter Tryz.func134,Tryz.ntmps134
   go_wp2_with fail
   refine (HT.out _ HH0.out).mono ?_
   rintro e w1 ⟨rfl,hb⟩
   have c0:=(HBX.out.later hb).cell
   go_wp2_with fail
   go_ret2
   exact ⟨rfl,Bt HH0.out hb⟩
theorem ok_len {d:List UInt8} {neg:Bool} (h:d.length<1∨600<d.length):okDigs d neg=false:=by
 unfold okDigs
 rcases h with h|h
 ·have:d=[]:=List.length_eq_zero_iff.1 zo
  subst this;rfl
 ·have:decide (d.length≤600)=false:=by simp;omega
  simp [this]
theorem ok_bad {d:List UInt8} {neg:Bool} {b:UInt8} (h:b∈d) (hb:b.toNat<48∨57<b.toNat):okDigs d neg=false:=by
 cases hk:okDigs d neg with
 | false=>rfl
 | true=>have:=okDigs_digS hk b h;omega
theorem ok_all {d:List UInt8} {neg:Bool} (h1:1≤d.length) (h2:d.length≤600) (h:∀ b∈d,48≤b.toNat∧b.toNat≤57):okDigs d neg= !(d.head? == some 48&&(neg || decide (1<d.length))):=by
 unfold okDigs
 have e1:decide (d≠[])=true:=by simp;intro h;subst h;simp at h1
 have e2:d.all (fun b=>decide (48≤b.toNat)&&decide (b.toNat≤57))=true:=by
  rw [List.all_eq_true]
  intro b hb
  have:=h b hb
  simp [this.1,this.2]
 rw [e1,e2,decide_eq_true h2]
 simp
theorem whole_some (bs:List UInt8):(whole bs).isSome=okDigs (cut bs).1 (cut bs).2:=by
 unfold whole
 cases okDigs (cut bs).1 (cut bs).2<;>rfl
theorem get_drop {s:ByteArray} {i f:Nat} (hf:f≤i) (hi:i<s.size):s[i]∈s.data.toList.drop f:=by
 have h:s.data.toList[i]? =some s[i]:=List.getElem?_eq_getElem (by exact hi)
 rw [List.mem_iff_getElem?]
 exact ⟨i - f,by rw [List.getElem?_drop,show f+(i - f)=i by omega];exact h⟩
theorem Right_ok (s:ByteArray) (w:World) (hs:s.size≤4611686018427387904) :
  Calls Tryz.prog 166 #[.string s] w (fun e w'=>e= .returned (.bool (whole s.data.toList).isSome)∧w=w'):=by
 rw [whole_some]
 have hsz:s.data.toList.length=s.size:=rfl
 by_cases h0:s.size=0
 ·have e:s.data.toList=[]:=List.length_eq_zero_iff.1 (by rw [hsz,h0])
  rw [e,ok_len (.inl (by unfold Dec.cut;simp))]
  have hs0:(s.size:Int)=0:=by omega
  clear hs hsz e
  go_enter Tryz.func166,Tryz.ntmps166
  go_wp2
  go_ret
  exact ⟨rfl,rfl⟩
 ·have hs0:0<s.size:=by omega
  have hd0:s.data.toList[0]? =some s[0]:=List.getElem?_eq_getElem (by exact hs0)
  have hhd:s.data.toList.head? =some s[0]:=by rw [List.head?_eq_getElem?];exact hd0
  obtain ⟨d,Ed⟩:∃ d,(Dec.cut s.data.toList).1=d:=⟨_,rfl⟩
  obtain ⟨ng,En⟩:∃ ng,(Dec.cut s.data.toList).2=ng:=⟨_,rfl⟩
  rw [Ed,En]
  by_cases h45:s[0]=45
  ·have hC:d=s.data.toList.drop 1∧ng=true:=by
    unfold Dec.cut at Ed En
    rw [if_pos (by rw [hhd,h45])] at Ed En
    exact ⟨by rw [← Ed,List.drop_one],En.symm⟩
   obtain ⟨hd,hng⟩:=hC
   subst hng
   have hq:((s[0].toNat:Int) == 45)=true:=by
    rw [h45];rfl
   have hdl:d.length=s.size - 1:=by rw [hd,List.length_drop,hsz]
   have HD:=zh hd
   clear hd Ed En hhd hd0 h45
   by_cases hbad:s.size - 1<1∨600<s.size - 1
   ·rw [ok_len (by rw [hdl];exact hbad)]
    have hb1:(s.size:Int) - 1<1∨(600:Int)<(s.size:Int) - 1:=by omega
    clear hsz hdl
    rcases hb1 with hb1|hb1
    ·go_enter Tryz.func166,Tryz.ntmps166
     go_wp2
     all_goals (go_ret;exact ⟨rfl,rfl⟩)
    ·have hb2:¬ (s.size:Int) - 1<1:=by omega
     go_enter Tryz.func166,Tryz.ntmps166
     go_wp2
     go_ret
     exact ⟨rfl,rfl⟩
   ·have hb1:¬ (s.size:Int) - 1<1:=by omega
    have hb2:¬ (600:Int)<(s.size:Int) - 1:=by omega
    have HDL:=zh hdl
    obtain ⟨R,ER⟩:∃ R,Hid (okDigs d true=R):=⟨_,zh rfl⟩
    rw [ER.out]
    clear hsz hdl hbad
    go_enter Tryz.func166,Tryz.ntmps166
    go_wp2
    go_loop [5] (fun iv=>∃ i:Nat,1≤i∧i≤s.size∧iv= .int .i64 i∧Hid (∀ j (h:j<s.size),1≤j→j<i→48≤s[j].toNat∧s[j].toNat≤57)) (fun iv=>s.size - (intOf iv).toNat)
    case atStart=>exact ⟨1,Nat.le_refl _,by omega,rfl,zh fun j h h1 h2=>absurd h2 zo⟩
    case round =>
     obtain ⟨i,hi1,hi2,rfl,HK⟩:=hrel
     by_cases his:i<s.size
     ·by_cases hlo:s[i].toNat<48
      ·have q1:(s[i].toNat:Int)<48:=by omega
       have HR:Hid (R=false):=zh (by rw [← ER.out];exact ok_bad (by rw [HD.out];exact get_drop hi1 his) (.inl hlo))
       clear hlo
       go_wp2
       go_ret
       exact ⟨by rw [HR.out];rfl,rfl⟩
      ·by_cases hhi:57<s[i].toNat
       ·have q1:¬ (s[i].toNat:Int)<48:=by omega
        have q2:(57:Int)<(s[i].toNat:Int):=by omega
        have HR:Hid (R=false):=zh (by rw [← ER.out];exact ok_bad (by rw [HD.out];exact get_drop hi1 his) (.inr hhi))
        clear hlo hhi
        go_wp2
        go_ret
        exact ⟨by rw [HR.out];rfl,rfl⟩
       ·have q1:¬ (s[i].toNat:Int)<48:=by omega
        have q2:¬ (57:Int)<(s[i].toNat:Int):=by omega
        have HK2:Hid (∀ j (h:j<s.size),1≤j→j<i+1→48≤s[j].toNat∧s[j].toNat≤57):=zh fun j h h1 h2=>by
         by_cases hji:j<i
         ·exact HK.out j h h1 hji
         ·obtain rfl:j=i:=by omega
          omega
        clear hlo hhi
        go_wp2
        go_round
        case rel=>exact ⟨i+1,by omega,by omega,by go_num,HK2⟩
        case measure=>exact zM
     ·have hie:i=s.size:=by omega
      subst hie
      have hF:1<s.size:=by omega
      have hall:okDigs d true= !(d.head? == some 48&&(true || decide (1<d.length))):=ok_all (by rw [HDL.out];omega) (by rw [HDL.out];omega) fun b hb=>by
       rw [HD.out] at hb
       obtain ⟨j,hj,rfl⟩:=List.getElem_of_mem hb
       rw [List.length_drop] at hj
       have hj2:j+1<s.size:=by
        have:s.data.toList.length=s.size:=rfl
        omega
       have:=HK.out (j+1) hj2 zo zo
       rw [List.getElem_drop]
       have e:s.data.toList[1+j]'(by have:s.data.toList.length=s.size:=rfl;omega)=s[j+1]:=by
        simp only [Nat.add_comm 1 j]
        rfl
       rw [e]
       exact this
      have hh:d.head? =some s[1]:=by
       rw [HD.out,List.head?_eq_getElem?, List.getElem?_drop]
       exact List.getElem?_eq_getElem (by exact hF)
      rw [hh,HDL.out,ER.out] at hall
      clear hh HK
      by_cases h48:s[1]=48
      ·have q3:((s[1].toNat:Int) == 48)=true:=by rw [h48];rfl
       have q4:((s[1].toNat:Int) != 48)=false:=by rw [h48];rfl
       have q5:((s.size:Int) == 1)=false:=by simp;omega
       have HR:Hid (R=false):=zh (by rw [hall,h48];rfl)
       clear h48 hall
       go_wp2
       go_ret
       exact ⟨by rw [HR.out];rfl,rfl⟩
      ·have q3:((s[1].toNat:Int) == 48)=false:=by
        rw [beq_eq_false_iff_ne]
        intro h
        exact h48 (UInt8.toNat_inj.1 (by
         have:s[1].toNat=48:=by omega
         rw [this];rfl))
       have q4:((s[1].toNat:Int) != 48)=true:=by rw [bne,q3];rfl
       have q5:(some s[1] == some (48:UInt8))=false:=by
        rw [beq_eq_false_iff_ne]
        intro h
        exact h48 (Option.some.inj h)
       have HR:Hid (R=true):=zh (by rw [hall,q5];rfl)
       clear h48 q5 hall
       go_wp2
       go_ret
       exact ⟨by rw [HR.out];rfl,rfl⟩
  ·have hC:d=s.data.toList.drop 0∧ng=false:=by
    unfold Dec.cut at Ed En
    rw [if_neg (by rw [hhd];intro h;exact h45 (Option.some.inj h))] at Ed En
    exact ⟨by rw [← Ed];rfl,En.symm⟩
   obtain ⟨hd,hng⟩:=hC
   subst hng
   have hq:((s[0].toNat:Int) == 45)=false:=by
    rw [beq_eq_false_iff_ne]
    intro h
    exact h45 (UInt8.toNat_inj.1 (by
     have:s[0].toNat=45:=by omega
     rw [this];rfl))
   have hdl:d.length=s.size - 0:=by rw [hd,List.length_drop,hsz]
   have HD:=zh hd
   clear hd Ed En hhd hd0 h45
   by_cases hbad:s.size - 0<1∨600<s.size - 0
   ·rw [ok_len (by rw [hdl];exact hbad)]
    have hb1:(s.size:Int) - 0<1∨(600:Int)<(s.size:Int) - 0:=by omega
    clear hsz hdl
    rcases hb1 with hb1|hb1
    ·go_enter Tryz.func166,Tryz.ntmps166
     go_wp2
     all_goals (go_ret;exact ⟨rfl,rfl⟩)
    ·have hb2:¬ (s.size:Int) - 0<1:=by omega
     go_enter Tryz.func166,Tryz.ntmps166
     go_wp2
     go_ret
     exact ⟨rfl,rfl⟩
   ·have hb1:¬ (s.size:Int) - 0<1:=by omega
    have hb2:¬ (600:Int)<(s.size:Int) - 0:=by omega
    have HDL:=zh hdl
    obtain ⟨R,ER⟩:∃ R,Hid (okDigs d false=R):=⟨_,zh rfl⟩
    rw [ER.out]
    clear hsz hdl hbad
    go_enter Tryz.func166,Tryz.ntmps166
    go_wp2
    go_loop [5] (fun iv=>∃ i:Nat,0≤i∧i≤s.size∧iv= .int .i64 i∧Hid (∀ j (h:j<s.size),0≤j→j<i→48≤s[j].toNat∧s[j].toNat≤57)) (fun iv=>s.size - (intOf iv).toNat)
    case atStart=>exact ⟨0,Nat.le_refl _,by omega,rfl,zh fun j h h1 h2=>absurd h2 zo⟩
    case round =>
     obtain ⟨i,hi1,hi2,rfl,HK⟩:=hrel
     by_cases his:i<s.size
     ·by_cases hlo:s[i].toNat<48
      ·have q1:(s[i].toNat:Int)<48:=by omega
       have HR:Hid (R=false):=zh (by rw [← ER.out];exact ok_bad (by rw [HD.out];exact get_drop hi1 his) (.inl hlo))
       clear hlo
       go_wp2
       go_ret
       exact ⟨by rw [HR.out];rfl,rfl⟩
      ·by_cases hhi:57<s[i].toNat
       ·have q1:¬ (s[i].toNat:Int)<48:=by omega
        have q2:(57:Int)<(s[i].toNat:Int):=by omega
        have HR:Hid (R=false):=zh (by rw [← ER.out];exact ok_bad (by rw [HD.out];exact get_drop hi1 his) (.inr hhi))
        clear hlo hhi
        go_wp2
        go_ret
        exact ⟨by rw [HR.out];rfl,rfl⟩
       ·have q1:¬ (s[i].toNat:Int)<48:=by omega
        have q2:¬ (57:Int)<(s[i].toNat:Int):=by omega
        have HK2:Hid (∀ j (h:j<s.size),0≤j→j<i+1→48≤s[j].toNat∧s[j].toNat≤57):=zh fun j h h1 h2=>by
         by_cases hji:j<i
         ·exact HK.out j h h1 hji
         ·obtain rfl:j=i:=by omega
          omega
        clear hlo hhi
        go_wp2
        go_round
        case rel=>exact ⟨i+1,by omega,by omega,by go_num,HK2⟩
        case measure=>exact zM
     ·have hie:i=s.size:=by omega
      subst hie
      have hF:0<s.size:=by omega
      have hall:okDigs d false= !(d.head? == some 48&&(false || decide (1<d.length))):=ok_all (by rw [HDL.out];omega) (by rw [HDL.out];omega) fun b hb=>by
       rw [HD.out] at hb
       obtain ⟨j,hj,rfl⟩:=List.getElem_of_mem hb
       rw [List.length_drop] at hj
       have hj2:j+0<s.size:=by
        have:s.data.toList.length=s.size:=rfl
        omega
       have:=HK.out (j+0) hj2 zo zo
       rw [List.getElem_drop]
       have e:s.data.toList[0+j]'(by have:s.data.toList.length=s.size:=rfl;omega)=s[j+0]:=by
        simp only [Nat.add_comm 0 j]
        rfl
       rw [e]
       exact this
      have hh:d.head? =some s[0]:=by
       rw [HD.out,List.head?_eq_getElem?, List.getElem?_drop]
       exact List.getElem?_eq_getElem (by exact hF)
      rw [hh,HDL.out,ER.out] at hall
      clear hh HK
      by_cases h48:s[0]=48
      ·have q3:((s[0].toNat:Int) == 48)=true:=by rw [h48];rfl
       have q4:((s[0].toNat:Int) != 48)=false:=by rw [h48];rfl
       by_cases h1:s.size=1
       ·have q5:((s.size:Int) == 1)=true:=by simp;omega
        have HR:Hid (R=true):=zh (by rw [hall,h48,h1];rfl)
        clear h48 hall
        go_wp2
        go_ret
        exact ⟨by rw [HR.out];rfl,rfl⟩
       ·have q5:((s.size:Int) == 1)=false:=by simp;omega
        have q6:decide (1<s.size - 0)=true:=by simp;omega
        have HR:Hid (R=false):=zh (by rw [hall,h48,q6];rfl)
        clear h48 q6 hall
        go_wp2
        go_ret
        exact ⟨by rw [HR.out];rfl,rfl⟩
      ·have q3:((s[0].toNat:Int) == 48)=false:=by
        rw [beq_eq_false_iff_ne]
        intro h
        exact h48 (UInt8.toNat_inj.1 (by
         have:s[0].toNat=48:=by omega
         rw [this];rfl))
       have q4:((s[0].toNat:Int) != 48)=true:=by rw [bne,q3];rfl
       have q5:(some s[0] == some (48:UInt8))=false:=by
        rw [beq_eq_false_iff_ne]
        intro h
        exact h48 (Option.some.inj h)
       have HR:Hid (R=true):=zh (by rw [hall,q5];rfl)
       clear h48 q5 hall
       go_wp2
       go_ret
       exact ⟨by rw [HR.out];rfl,rfl⟩
theorem group4_lt {bs:List UInt8} {f:Nat} (hd:DigS (bs.drop f)) {st i:Nat} (hf:f≤st) (h4:i - st≤4):num ((bs.take i).drop st)<10000:=by
 have h1:=num_lt ((bs.take i).drop st) (fun b hb=>by
  refine hd b ?_
  have h:b∈(bs.take i).drop f:=by
   obtain ⟨j,hj,rfl⟩:=List.getElem_of_mem hb
   rw [List.getElem_drop]
   have:(bs.take i).drop st=((bs.take i).drop f).drop (st - f):=by rw [List.drop_drop,show f+(st - f)=st by omega]
   rw [List.mem_iff_getElem?]
   refine ⟨st - f+j,?_⟩
   rw [List.getElem?_drop,show f+(st - f+j)=st+j by omega]
   exact List.getElem?_eq_getElem _
  rw [List.drop_take] at h
  exact List.mem_of_mem_take h)
 have h2:(10:Nat)^((bs.take i).drop st).length≤10^4:=Nat.pow_le_pow_right zo (by rw [List.length_drop,List.length_take];omega)
 omega
theorem gather4_step {bs:List UInt8} {st i:Nat} {x:UInt8} (hst:st≤i) (hb:48≤x.toNat∧x.toNat≤57) (hx:bs[i]? =some x) :
  ((num ((bs.take i).drop st):Nat):Int)*10+((x.toNat:Int) - 48)=(num ((bs.take (i+1)).drop st):Nat):=by
 rw [take_drop_snoc hst hx,num_snoc]
 omega
theorem In_ok (s:ByteArray) (z:Int) (w:World) (hz:whole s.data.toList=some z) :
  Calls Tryz.prog 167 #[.string s] w (PlPost w z):=by
 obtain ⟨i0,hi,hz0,hz1,hz2⟩:=info_parts infoI
 obtain ⟨bs,hbs⟩:∃ bs,s.data.toList=bs:=⟨_,rfl⟩
 rw [hbs] at hz
 have hn:bs.length=s.size:=by rw [← hbs];rfl
 have hok:okDigs (Dec.cut bs).1 (Dec.cut bs).2=true:=by
  unfold whole at hz
  split at hz
  ·assumption
  ·cases hz
 have hzz:Dec.mk (num (Dec.cut bs).1) (Dec.cut bs).2=z:=by
  unfold whole at hz
  rw [if_pos hok] at hz
  exact Option.some.inj hz
 have hsz:s.size≤601:=by
  have h1:(Dec.cut bs).1.length≤600:=by
   unfold okDigs at hok
   simp only [Bool.and_eq_true,decide_eq_true_eq] at hok
   exact hok.1.1.2
  have h2:bs.length≤(Dec.cut bs).1.length+1:=by
   unfold Dec.cut
   split
   ·simp;omega
   ·simp
  omega
 have hs0:0<s.size:=by
  rcases Nat.eq_zero_or_pos s.size with h|h
  ·have:bs=[]:=List.length_eq_zero_iff.1 zo
   subst this
   exact absurd hok (by simp [Dec.cut,okDigs])
  ·exact h
 have hhd:bs.head? =some s[0]:=by
  rw [List.head?_eq_getElem?, ← hbs]
  exact List.getElem?_eq_getElem (by exact hs0)
 obtain ⟨d,Ed⟩:∃ d,(Dec.cut bs).1=d:=⟨_,rfl⟩
 obtain ⟨ng,En⟩:∃ ng,(Dec.cut bs).2=ng:=⟨_,rfl⟩
 rw [Ed,En] at hok hzz
 have HZ:Hid (sgd (num d) ng=z):=zh hzz
 have hC:(d=bs.drop 1∧ng=true)∨(d=bs.drop 0∧ng=false):=by
  unfold Dec.cut at Ed En
  by_cases h:bs.head? =some 45
  ·rw [if_pos h] at Ed En
   exact .inl ⟨by rw [← Ed,List.drop_one],En.symm⟩
  ·rw [if_neg h] at Ed En
   exact .inr ⟨by rw [← Ed];rfl,En.symm⟩
 have h45:(ng=true→s[0]=45)∧(s[0]=45→ng=true):=by
  unfold Dec.cut at En
  constructor
  ·intro h
   by_cases h':bs.head? =some 45
   ·rw [hhd] at h';exact Option.some.inj h'
   ·rw [if_neg h'] at En;rw [← En] at h;cases h
  ·intro h
   rw [if_pos (by rw [hhd,h])] at En
   exact En.symm
 have h0:Below w.heap.size w (w.alloc (.cells #[.bool false,.slice none 0 0] 121)):=belA
 have hx:=Box.new w #[.bool false,.slice none 0 0] 121
 have HBS:=zh hbs
 have HN:=zh hn
 clear hz hzz hhd Ed En hbs hn
 rcases hC with hC|hC
 ·obtain ⟨hd,hng⟩:=hC
  subst hng
  have HD:=zh hd
  have hds:DigS (bs.drop 1):=by rw [← hd];exact okDigs_digS hok
  have hle:1<s.size:=by
   have h1:d≠[]:=fun e=>by rw [e] at hok;exact absurd hok (by simp [okDigs])
   have h2:0<d.length:=List.length_pos_iff.2 h1
   rw [hd,List.length_drop,HN.out] at h2
   omega
  have hq:((s[0].toNat:Int) == 45)=true:=by
   have:s[0]=45:=by have:=h45.1 rfl;exact this
   rw [this];rfl
  have HDS:=zh hds
  clear hd hds hok h45
  go_enter Tryz.func167,Tryz.ntmps167
  go_wp2_with fail
  go_loopw [4,5,6,7] (fun dv ev _ _ wr=>∃ (q:Int) (ls:List Nat),ev= .int .i64 q∧ -4≤q∧q≤s.size∧Hid ((1:Int)<q→(s.size:Int) - q=4*ls.length)∧Hid (ls.length≤s.size)∧Hid (Dig 10000 ls)∧Hid (val 10000 ls=num (bs.drop (max q 1).toNat))∧wr.ownsRow (w.heap.size+1) 3 1 dv ls.length (ints ls) ∧
    Below (w.heap.size+1) (w.alloc (.cells #[.bool false,.slice none 0 0] 121)) wr) (fun _ ev _ _ _=>(intOf ev+4).toNat)
  case atStart=>exact ⟨s.size,[],rfl,by omega,by omega,zh (by intro h;simp),zh zi,zh Dig.nil,zh (by rw [show (max (s.size:Int) 1).toNat=bs.length by rw [HN.out];omega,List.drop_length];simp [val,num]),World.ownsRow_nil _ _ _ _,Below.refl _ _⟩
  case round =>
   obtain ⟨q,ls,rfl,hq4,hqs,HE,HLL,HDL,HV,hown,hb⟩:=hrel
   by_cases hqf:q≤1
   ·have hv:val 10000 ls=num (bs.drop 1):=by rw [HV.out,show (max q 1).toNat=1 by omega]
    have hz:sgd (val 10000 ls) true=z:=by rw [hv,← HD.out];exact HZ.out
    have h1:Below w.heap.size w wr:=⟨hb.os,hb.tape,hb.output,Nat.le_trans zi hb.size,fun i hi=>(hb.block i zo).trans (h0.block i hi)⟩
    have hxr:=hx.later (w':=wr) ⟨hb.os,hb.tape,hb.output,by have:=hb.size;simpa using this,fun i hi=>hb.block i (by simpa using hi)⟩
    have cx:=hxr.cell
    have fx:=hxr.free
    have hg:=made_ok true u4 ls wr (Gs.of_owns hown) HDL.out
    rw [hz] at hg
    have HG:=zh hg
    obtain ⟨pa,ca,rfl, -⟩:=(Gs.of_owns hown).read
    clear hv hz hg hown HE HV hb
    go_wp2_with fail
    refine HG.out.mono ?_
    rintro e w' ⟨v',rfl,hb,hv⟩
    obtain ⟨bNV,paNV,lNV,caNV,rfl⟩:=hv.agg;have NV:=zh hv;clear hv
    have hy:=hxr.later hb
    clear cx fx
    have cy:=hy.cell
    have fy:=hy.free
    go_wp2_with fail
    refine ret_c rfl rfl boxA Tryz.underlying121 rfl zk ?_
    exact ⟨_,rfl,belA,NV.out.set2 hy zd _ _ _ _⟩
   ·obtain ⟨e,rfl⟩:∃ e:Nat,q=(e:Int):=⟨q.toNat,by omega⟩
    have hef:1<e:=by omega
    have hef2:(1:Int)<(e:Int):=by omega
    rcases Int.lt_or_le ((e:Int) - 4) 1 with h4|h4
    ·have hst':(e:Int) - 4<1:=by omega
     have hst2:max ((e:Int) - 4) 1=1:=by omega
     have hgl:=group4_lt (bs:=bs) (f:=1) HDS.out (Nat.le_refl _) (i:=e) zo
     have HE2:Hid ((s.size:Int) - e=4*ls.length):=zh (HE.out zo)
     clear HE
     go_wp2_with fail
     obtain ⟨wo,rfl⟩:∃ wo:World,wo=wr:=⟨_,rfl⟩
     go_loopw [6,7] (fun v6 v7 wi=>∃ i:Nat,v7= .int .i64 (i:Int)∧1≤i∧i≤e∧Hid (v6= .int .i64 (num ((bs.take i).drop 1):Nat))∧wo=wi) (fun _ v7 _=>e - (intOf v7).toNat)
     case atStart=>exact ⟨1,rfl,Nat.le_refl _,by omega,zh (by rw [List.drop_eq_nil_of_le (by rw [List.length_take];omega)];rfl),rfl⟩
     case round =>
      obtain ⟨i,rfl,hi1,hi2,H6,rfl⟩:=hrel
      have e6:=H6.out
      subst e6
      rcases Nat.lt_or_ge i e with hie|hie
      ·have his:i<s.size:=by omega
       have hx2:bs[i]? =some s[i]:=by rw [← HBS.out];exact List.getElem?_eq_getElem (by exact his)
       have hdi:=HDS.out s[i] (by rw [← HBS.out];exact get_drop zo his)
       have HS:=zh (gather4_step (bs:=bs) (st:=1) (x:=s[i]) hi1 hdi hx2)
       have hgb:=group4_lt (bs:=bs) (f:=1) HDS.out (Nat.le_refl _) (i:=i) zo
       generalize num ((bs.take i).drop 1)=g at *
       go_wp2_with fail
       exact ⟨⟨i+1,rfl,by omega,by omega,zh (by rw [← HS.out]),trivial⟩,by simp only [intOf];omega⟩
      ·have hie:i=e:=by omega
       subst hie
       have HG:=zh (num_group (bs:=bs) (s:=1) (e:=i) zo (by have:=HN.out;omega))
       have hlen:bs.length - i=4*ls.length:=by have:=HE2.out;have:=HN.out;omega
       have hmx:(max (i:Int) 1).toNat=i:=by omega
       have hv0:=HV.out
       rw [hmx] at hv0
       rw [hlen,Nat.pow_mul,← hv0] at HG
       generalize num ((bs.take i).drop 1)=gv at *
       have hll:ls.length+1≤s.size:=by have:=HE2.out;omega
       have ec:ints ls++[.int .i64 (gv:Int)]=ints (ls++[gv]):=by unfold ints;simp only [List.map_append,List.map_cons,List.map_nil]
       have EC:=zh ec
       clear H6 ec
       go_wp2_with (at_builtin;refine wpList_append_own _ rfl (.tmp 35) (.tmp 37) 119 rfl (w.heap.size+1) 3 i0 (.int .i64 0) 1 8 Tryz.underlying119 hi hz0 hz1 hz2 rfl zd _ _ _ rfl (hown.alloc _) ⟨wo.heap.size,0,none⟩ 1 1 [.int .i64 (gv:Int)] rfl rfl (by intro t u ht;match t,ht with|0,ht=>simp at ht;subst ht;simp [Addr.add]) (by intro u hu;simp at hu;subst hu;rfl) (by unfold maxLen;omega) zo (by have:=hb.size;simp at*; omega) ?_)
       intro v' w1 hown1 hgrow1 _
       rw [EC.out] at hown1
       have hb3:Below (w.heap.size+1) (w.alloc (.cells #[.bool false,.slice none 0 0] 121)) w1:=(hb.alloc (by have:=hb.size;simpa using this) _).grown hgrow1 (by simp;have:=hb.size;simp at*; omega) (fun k hk=>(hown.lt k hk).1)
       have HV2:Hid (val 10000 (ls++[gv])=num (bs.drop (max ((i:Int) - 4) 1).toNat)):=by
        unfold Hid
        rw [show (max ((i:Int) - 4) 1).toNat=1 by omega,val_snoc,HG.out,Nat.add_comm,Nat.mul_comm]
       clear hown hgrow1 hst' hst2
       go_wp2_with fail
       refine ⟨⟨(i:Int) - 4,ls++[gv],rfl,by omega,by omega,zh (fun h=>?_),zh (by rw [List.length_append];exact hll),zh (HDL.out.snoc hgl),HV2,by rw [List.length_append];exact hown1,hb3⟩,?_⟩
       ·have:=HE2.out
        rw [List.length_append,List.length_singleton]
        omega
       ·simp only [intOf]
        omega
    ·obtain ⟨f,rfl⟩:∃ f,e=f+4:=⟨e - 4,by omega⟩
     have s1:1≤f:=by omega
     have hst':¬ (f:Int)<1:=by omega
     have hst2:max (f:Int) 1=(f:Int):=by omega
     have hgl:=group4_lt (bs:=bs) (f:=1) HDS.out s1 (i:=f+4) zo
     have HE2:Hid ((s.size:Int) - ((f+4:Nat):Int)=4*ls.length):=zh (HE.out zo)
     clear HE
     go_wp2_with fail
     obtain ⟨wo,rfl⟩:∃ wo:World,wo=wr:=⟨_,rfl⟩
     go_loopw [6,7] (fun v6 v7 wi=>∃ i:Nat,v7= .int .i64 (i:Int)∧f≤i∧i≤f+4∧Hid (v6= .int .i64 (num ((bs.take i).drop f):Nat))∧wo=wi) (fun _ v7 _=>f+4 - (intOf v7).toNat)
     case atStart=>exact ⟨f,rfl,Nat.le_refl _,by omega,zh (by rw [List.drop_eq_nil_of_le (by rw [List.length_take];omega)];rfl),rfl⟩
     case round =>
      obtain ⟨i,rfl,hi1,hi2,H6,rfl⟩:=hrel
      have e6:=H6.out
      subst e6
      rcases Nat.lt_or_ge i (f+4) with hie|hie
      ·have his:i<s.size:=by omega
       have hx2:bs[i]? =some s[i]:=by rw [← HBS.out];exact List.getElem?_eq_getElem (by exact his)
       have hdi:=HDS.out s[i] (by rw [← HBS.out];exact get_drop zo his)
       have HS:=zh (gather4_step (bs:=bs) (st:=f) (x:=s[i]) hi1 hdi hx2)
       have hgb:=group4_lt (bs:=bs) (f:=1) HDS.out s1 (i:=i) zo
       generalize num ((bs.take i).drop f)=g at *
       go_wp2_with fail
       exact ⟨⟨i+1,rfl,by omega,by omega,zh (by rw [← HS.out]),trivial⟩,by simp only [intOf];omega⟩
      ·obtain rfl:i=f+4:=by omega
       have HG:=zh (num_group (bs:=bs) (s:=f) (e:=f+4) zo (by have:=HN.out;omega))
       have hlen:bs.length - (f+4)=4*ls.length:=by have:=HE2.out;have:=HN.out;omega
       have hmx:(max ((f+4:Nat):Int) 1).toNat=f+4:=by omega
       have hv0:=HV.out
       rw [hmx] at hv0
       rw [hlen,Nat.pow_mul,← hv0] at HG
       generalize num ((bs.take (f+4)).drop f)=gv at *
       have hll:ls.length+1≤s.size:=by have:=HE2.out;omega
       have ec:ints ls++[.int .i64 (gv:Int)]=ints (ls++[gv]):=by unfold ints;simp only [List.map_append,List.map_cons,List.map_nil]
       have EC:=zh ec
       clear H6 ec
       go_wp2_with (at_builtin;refine wpList_append_own _ rfl (.tmp 35) (.tmp 37) 119 rfl (w.heap.size+1) 3 i0 (.int .i64 0) 1 8 Tryz.underlying119 hi hz0 hz1 hz2 rfl zd _ _ _ rfl (hown.alloc _) ⟨wo.heap.size,0,none⟩ 1 1 [.int .i64 (gv:Int)] rfl rfl (by intro t u ht;match t,ht with|0,ht=>simp at ht;subst ht;simp [Addr.add]) (by intro u hu;simp at hu;subst hu;rfl) (by unfold maxLen;omega) zo (by have:=hb.size;simp at*; omega) ?_)
       intro v' w1 hown1 hgrow1 _
       rw [EC.out] at hown1
       have hb3:Below (w.heap.size+1) (w.alloc (.cells #[.bool false,.slice none 0 0] 121)) w1:=(hb.alloc (by have:=hb.size;simpa using this) _).grown hgrow1 (by simp;have:=hb.size;simp at*; omega) (fun k hk=>(hown.lt k hk).1)
       have HV2:Hid (val 10000 (ls++[gv])=num (bs.drop (max (f:Int) 1).toNat)):=by
        unfold Hid
        rw [show (max (f:Int) 1).toNat=f by omega,val_snoc,HG.out,Nat.add_comm,Nat.mul_comm]
       clear hown hgrow1 hst' hst2
       go_wp2_with fail
       refine ⟨⟨(f:Int),ls++[gv],rfl,by omega,by omega,zh (fun h=>?_),zh (by rw [List.length_append];exact hll),zh (HDL.out.snoc hgl),HV2,by rw [List.length_append];exact hown1,hb3⟩,?_⟩
       ·have:=HE2.out
        rw [List.length_append,List.length_singleton]
        omega
       ·simp only [intOf]
        omega
 ·obtain ⟨hd,hng⟩:=hC
  subst hng
  have HD:=zh hd
  have hds:DigS (bs.drop 0):=by rw [← hd];exact okDigs_digS hok
  have hle:0<s.size:=by
   have h1:d≠[]:=fun e=>by rw [e] at hok;exact absurd hok (by simp [okDigs])
   have h2:0<d.length:=List.length_pos_iff.2 h1
   rw [hd,List.length_drop,HN.out] at h2
   omega
  have hq:((s[0].toNat:Int) == 45)=false:=by
   have h:s[0]≠45:=fun e=>by have:=h45.2 e;cases this
   rw [beq_eq_false_iff_ne]
   intro h2
   exact h (UInt8.toNat_inj.1 (by
    have:s[0].toNat=45:=by omega
    rw [this];rfl))
  have HDS:=zh hds
  clear hd hds hok h45
  go_enter Tryz.func167,Tryz.ntmps167
  go_wp2_with fail
  go_loopw [4,5,6,7] (fun dv ev _ _ wr=>∃ (q:Int) (ls:List Nat),ev= .int .i64 q∧ -4≤q∧q≤s.size∧Hid ((0:Int)<q→(s.size:Int) - q=4*ls.length)∧Hid (ls.length≤s.size)∧Hid (Dig 10000 ls)∧Hid (val 10000 ls=num (bs.drop (max q 0).toNat))∧wr.ownsRow (w.heap.size+1) 3 1 dv ls.length (ints ls) ∧
    Below (w.heap.size+1) (w.alloc (.cells #[.bool false,.slice none 0 0] 121)) wr) (fun _ ev _ _ _=>(intOf ev+4).toNat)
  case atStart=>exact ⟨s.size,[],rfl,by omega,by omega,zh (by intro h;simp),zh zi,zh Dig.nil,zh (by rw [show (max (s.size:Int) 0).toNat=bs.length by rw [HN.out];omega,List.drop_length];simp [val,num]),World.ownsRow_nil _ _ _ _,Below.refl _ _⟩
  case round =>
   obtain ⟨q,ls,rfl,hq4,hqs,HE,HLL,HDL,HV,hown,hb⟩:=hrel
   by_cases hqf:q≤0
   ·have hv:val 10000 ls=num (bs.drop 0):=by rw [HV.out,show (max q 0).toNat=0 by omega]
    have hz:sgd (val 10000 ls) false=z:=by rw [hv,← HD.out];exact HZ.out
    have h1:Below w.heap.size w wr:=⟨hb.os,hb.tape,hb.output,Nat.le_trans zi hb.size,fun i hi=>(hb.block i zo).trans (h0.block i hi)⟩
    have hxr:=hx.later (w':=wr) ⟨hb.os,hb.tape,hb.output,by have:=hb.size;simpa using this,fun i hi=>hb.block i (by simpa using hi)⟩
    have cx:=hxr.cell
    have fx:=hxr.free
    have hg:=made_ok false u4 ls wr (Gs.of_owns hown) HDL.out
    rw [hz] at hg
    have HG:=zh hg
    obtain ⟨pa,ca,rfl, -⟩:=(Gs.of_owns hown).read
    clear hv hz hg hown HE HV hb
    go_wp2_with fail
    refine HG.out.mono ?_
    rintro e w' ⟨v',rfl,hb,hv⟩
    obtain ⟨bNV,paNV,lNV,caNV,rfl⟩:=hv.agg;have NV:=zh hv;clear hv
    have hy:=hxr.later hb
    clear cx fx
    have cy:=hy.cell
    have fy:=hy.free
    go_wp2_with fail
    refine ret_c rfl rfl boxA Tryz.underlying121 rfl zk ?_
    exact ⟨_,rfl,belA,NV.out.set2 hy zd _ _ _ _⟩
   ·obtain ⟨e,rfl⟩:∃ e:Nat,q=(e:Int):=⟨q.toNat,by omega⟩
    have hef:0<e:=by omega
    have hef2:(0:Int)<(e:Int):=by omega
    rcases Int.lt_or_le ((e:Int) - 4) 0 with h4|h4
    ·have hst':(e:Int) - 4<0:=by omega
     have hst2:max ((e:Int) - 4) 0=0:=by omega
     have hgl:=group4_lt (bs:=bs) (f:=0) HDS.out (Nat.le_refl _) (i:=e) zo
     have HE2:Hid ((s.size:Int) - e=4*ls.length):=zh (HE.out zo)
     clear HE
     go_wp2_with fail
     obtain ⟨wo,rfl⟩:∃ wo:World,wo=wr:=⟨_,rfl⟩
     go_loopw [6,7] (fun v6 v7 wi=>∃ i:Nat,v7= .int .i64 (i:Int)∧0≤i∧i≤e∧Hid (v6= .int .i64 (num ((bs.take i).drop 0):Nat))∧wo=wi) (fun _ v7 _=>e - (intOf v7).toNat)
     case atStart=>exact ⟨0,rfl,Nat.le_refl _,by omega,zh (by rw [List.drop_eq_nil_of_le (by rw [List.length_take];omega)];rfl),rfl⟩
     case round =>
      obtain ⟨i,rfl,hi1,hi2,H6,rfl⟩:=hrel
      have e6:=H6.out
      subst e6
      rcases Nat.lt_or_ge i e with hie|hie
      ·have his:i<s.size:=by omega
       have hx2:bs[i]? =some s[i]:=by rw [← HBS.out];exact List.getElem?_eq_getElem (by exact his)
       have hdi:=HDS.out s[i] (by rw [← HBS.out];exact get_drop zo his)
       have HS:=zh (gather4_step (bs:=bs) (st:=0) (x:=s[i]) hi1 hdi hx2)
       have hgb:=group4_lt (bs:=bs) (f:=0) HDS.out (Nat.le_refl _) (i:=i) zo
       generalize num ((bs.take i).drop 0)=g at *
       go_wp2_with fail
       exact ⟨⟨i+1,rfl,by omega,by omega,zh (by rw [← HS.out]),trivial⟩,by simp only [intOf];omega⟩
      ·have hie:i=e:=by omega
       subst hie
       have HG:=zh (num_group (bs:=bs) (s:=0) (e:=i) zo (by have:=HN.out;omega))
       have hlen:bs.length - i=4*ls.length:=by have:=HE2.out;have:=HN.out;omega
       have hmx:(max (i:Int) 0).toNat=i:=by omega
       have hv0:=HV.out
       rw [hmx] at hv0
       rw [hlen,Nat.pow_mul,← hv0] at HG
       generalize num ((bs.take i).drop 0)=gv at *
       have hll:ls.length+1≤s.size:=by have:=HE2.out;omega
       have ec:ints ls++[.int .i64 (gv:Int)]=ints (ls++[gv]):=by unfold ints;simp only [List.map_append,List.map_cons,List.map_nil]
       have EC:=zh ec
       clear H6 ec
       go_wp2_with (at_builtin;refine wpList_append_own _ rfl (.tmp 35) (.tmp 37) 119 rfl (w.heap.size+1) 3 i0 (.int .i64 0) 1 8 Tryz.underlying119 hi hz0 hz1 hz2 rfl zd _ _ _ rfl (hown.alloc _) ⟨wo.heap.size,0,none⟩ 1 1 [.int .i64 (gv:Int)] rfl rfl (by intro t u ht;match t,ht with|0,ht=>simp at ht;subst ht;simp [Addr.add]) (by intro u hu;simp at hu;subst hu;rfl) (by unfold maxLen;omega) zo (by have:=hb.size;simp at*; omega) ?_)
       intro v' w1 hown1 hgrow1 _
       rw [EC.out] at hown1
       have hb3:Below (w.heap.size+1) (w.alloc (.cells #[.bool false,.slice none 0 0] 121)) w1:=(hb.alloc (by have:=hb.size;simpa using this) _).grown hgrow1 (by simp;have:=hb.size;simp at*; omega) (fun k hk=>(hown.lt k hk).1)
       have HV2:Hid (val 10000 (ls++[gv])=num (bs.drop (max ((i:Int) - 4) 0).toNat)):=by
        unfold Hid
        rw [show (max ((i:Int) - 4) 0).toNat=0 by omega,val_snoc,HG.out,Nat.add_comm,Nat.mul_comm]
       clear hown hgrow1 hst' hst2
       go_wp2_with fail
       refine ⟨⟨(i:Int) - 4,ls++[gv],rfl,by omega,by omega,zh (fun h=>?_),zh (by rw [List.length_append];exact hll),zh (HDL.out.snoc hgl),HV2,by rw [List.length_append];exact hown1,hb3⟩,?_⟩
       ·have:=HE2.out
        rw [List.length_append,List.length_singleton]
        omega
       ·simp only [intOf]
        omega
    ·obtain ⟨f,rfl⟩:∃ f,e=f+4:=⟨e - 4,by omega⟩
     have s1:0≤f:=by omega
     have hst':¬ (f:Int)<0:=by omega
     have hst2:max (f:Int) 0=(f:Int):=by omega
     have hgl:=group4_lt (bs:=bs) (f:=0) HDS.out s1 (i:=f+4) zo
     have HE2:Hid ((s.size:Int) - ((f+4:Nat):Int)=4*ls.length):=zh (HE.out zo)
     clear HE
     go_wp2_with fail
     obtain ⟨wo,rfl⟩:∃ wo:World,wo=wr:=⟨_,rfl⟩
     go_loopw [6,7] (fun v6 v7 wi=>∃ i:Nat,v7= .int .i64 (i:Int)∧f≤i∧i≤f+4∧Hid (v6= .int .i64 (num ((bs.take i).drop f):Nat))∧wo=wi) (fun _ v7 _=>f+4 - (intOf v7).toNat)
     case atStart=>exact ⟨f,rfl,Nat.le_refl _,by omega,zh (by rw [List.drop_eq_nil_of_le (by rw [List.length_take];omega)];rfl),rfl⟩
     case round =>
      obtain ⟨i,rfl,hi1,hi2,H6,rfl⟩:=hrel
      have e6:=H6.out
      subst e6
      rcases Nat.lt_or_ge i (f+4) with hie|hie
      ·have his:i<s.size:=by omega
       have hx2:bs[i]? =some s[i]:=by rw [← HBS.out];exact List.getElem?_eq_getElem (by exact his)
       have hdi:=HDS.out s[i] (by rw [← HBS.out];exact get_drop zo his)
       have HS:=zh (gather4_step (bs:=bs) (st:=f) (x:=s[i]) hi1 hdi hx2)
       have hgb:=group4_lt (bs:=bs) (f:=0) HDS.out s1 (i:=i) zo
       generalize num ((bs.take i).drop f)=g at *
       go_wp2_with fail
       exact ⟨⟨i+1,rfl,by omega,by omega,zh (by rw [← HS.out]),trivial⟩,by simp only [intOf];omega⟩
      ·obtain rfl:i=f+4:=by omega
       have HG:=zh (num_group (bs:=bs) (s:=f) (e:=f+4) zo (by have:=HN.out;omega))
       have hlen:bs.length - (f+4)=4*ls.length:=by have:=HE2.out;have:=HN.out;omega
       have hmx:(max ((f+4:Nat):Int) 0).toNat=f+4:=by omega
       have hv0:=HV.out
       rw [hmx] at hv0
       rw [hlen,Nat.pow_mul,← hv0] at HG
       generalize num ((bs.take (f+4)).drop f)=gv at *
       have hll:ls.length+1≤s.size:=by have:=HE2.out;omega
       have ec:ints ls++[.int .i64 (gv:Int)]=ints (ls++[gv]):=by unfold ints;simp only [List.map_append,List.map_cons,List.map_nil]
       have EC:=zh ec
       clear H6 ec
       go_wp2_with (at_builtin;refine wpList_append_own _ rfl (.tmp 35) (.tmp 37) 119 rfl (w.heap.size+1) 3 i0 (.int .i64 0) 1 8 Tryz.underlying119 hi hz0 hz1 hz2 rfl zd _ _ _ rfl (hown.alloc _) ⟨wo.heap.size,0,none⟩ 1 1 [.int .i64 (gv:Int)] rfl rfl (by intro t u ht;match t,ht with|0,ht=>simp at ht;subst ht;simp [Addr.add]) (by intro u hu;simp at hu;subst hu;rfl) (by unfold maxLen;omega) zo (by have:=hb.size;simp at*; omega) ?_)
       intro v' w1 hown1 hgrow1 _
       rw [EC.out] at hown1
       have hb3:Below (w.heap.size+1) (w.alloc (.cells #[.bool false,.slice none 0 0] 121)) w1:=(hb.alloc (by have:=hb.size;simpa using this) _).grown hgrow1 (by simp;have:=hb.size;simp at*; omega) (fun k hk=>(hown.lt k hk).1)
       have HV2:Hid (val 10000 (ls++[gv])=num (bs.drop (max (f:Int) 0).toNat)):=by
        unfold Hid
        rw [show (max (f:Int) 0).toNat=f by omega,val_snoc,HG.out,Nat.add_comm,Nat.mul_comm]
       clear hown hgrow1 hst' hst2
       go_wp2_with fail
       refine ⟨⟨(f:Int),ls++[gv],rfl,by omega,by omega,zh (fun h=>?_),zh (by rw [List.length_append];exact hll),zh (HDL.out.snoc hgl),HV2,by rw [List.length_append];exact hown1,hb3⟩,?_⟩
       ·have:=HE2.out
        rw [List.length_append,List.length_singleton]
        omega
       ·simp only [intOf]
        omega
end Go.Proofs.verdigrisref01
namespace Go.Proofs.verdigrisref02
open Go Go.RowKit Go.SW Go.Num Go.Mem Go.Proofs Go.Dec Go.Proofs.verdigrisref01
def Ra (w:World) (v:Value) (q:Rat):Prop:=∃ bn pn ln cn bd pd ld cd,v= .agg #[.bool bn,.slice pn ln cn,.bool bd,.slice pd ld cd]∧Pl w (.agg #[.bool bn,.slice pn ln cn]) q.num∧Pl w (.agg #[.bool bd,.slice pd ld cd]) q.den
theorem Ra.later {w w':World} {v:Value} {q:Rat} (h:Ra w v q) (hb:Below w.heap.size w w'):Ra w' v q:=by
 obtain ⟨bn,pn,ln,cn,bd,pd,ld,cd,e,h1,h2⟩:=h
 exact ⟨bn,pn,ln,cn,bd,pd,ld,cd,e,h1.later hb,h2.later hb⟩
def RaPost (w:World) (q:Rat) (e:Ending) (w':World):Prop:=∃ v',e= .returned v'∧Below w.heap.size w w'∧Ra w' v' q
theorem low_parts {n d:Int} (hd:0<d):((n:Rat) / (d:Rat)).num=n / (Nat.gcd n.natAbs d.natAbs:Int)∧(((n:Rat) / (d:Rat)).den:Int)=d / (Nat.gcd n.natAbs d.natAbs:Int):=by
 obtain ⟨k,rfl⟩:=Int.eq_ofNat_of_zero_le (Int.le_of_lt hd)
 have hk:0<k:=by omega
 have e:(n:Rat) / ((k:Int):Rat)=mkRat n k:=by
  rw [Rat.mkRat_eq_div]
  rfl
 have h:=Fra.mk_parts n hk
 rw [e,Int.natAbs_natCast]
 refine ⟨?_,?_⟩
 ·rw [h.1,Fra.sgd_divn (Nat.gcd_dvd_left _ _)]
 ·rw [h.2,Int.natCast_ediv]
theorem Pl.set4 {w:World} {v:Value} {z:Int} (h:Pl w v z) {b:Nat} {cs:Array Value} {T':TypeId} (hx:Box w b cs T') (hT:3≠T') (u0 u1 u2 u3:Value) :
  Pl ((((w.setCell ⟨b,0,none⟩ u0).setCell ⟨b,1,none⟩ u1).setCell ⟨b,2,none⟩ u2).setCell ⟨b,3,none⟩ u3) v z :=
 (h.set2 hx hT 0 1 u0 u1).set2 ((hx.set 0 u0).set 1 u1) hT 2 3 u2 u3
theorem Ra.set4 {w:World} {v:Value} {q:Rat} (h:Ra w v q) {b:Nat} {cs:Array Value} {T':TypeId} (hx:Box w b cs T') (hT:3≠T') (u0 u1 u2 u3:Value) :
  Ra ((((w.setCell ⟨b,0,none⟩ u0).setCell ⟨b,1,none⟩ u1).setCell ⟨b,2,none⟩ u2).setCell ⟨b,3,none⟩ u3) v q:=by
 obtain ⟨bn,pn,ln,cn,bd,pd,ld,cd,e,h1,h2⟩:=h
 exact ⟨bn,pn,ln,cn,bd,pd,ld,cd,e,Pl.set4 h1 hx hT u0 u1 u2 u3,Pl.set4 h2 hx hT u0 u1 u2 u3⟩
theorem Lowest_pos (x y:Value) (n d:Int) (w:World) (hx:Pl w x n) (hy:Pl w y d) (ha:sz 10000 n.natAbs≤274877906944) (hb:sz 10000 d.natAbs≤274877906944) (hd:0<d) :
  Calls Tryz.prog 135 #[x,y] w (RaPost w ((n:Rat) / (d:Rat))):=by
 obtain ⟨e1,e2⟩:=low_parts (n:=n) hd
 obtain ⟨q,Eq⟩:∃ q:Rat,(n:Rat) / (d:Rat)=q:=⟨_,rfl⟩
 rw [Eq] at e1 e2 ⊢
 obtain ⟨bA,paA,lA,caA,rfl⟩:=hx.agg
 obtain ⟨bB,paB,lB,caB,rfl⟩:=hy.agg
 have hbf:bB=false:=by rw [hy.nm.2];simp;omega
 subst hbf
 have NA:=zh hx
 have NB:=zh hy
 have KA:=zh ha
 have KB:=zh hb
 have hg0:0<Nat.gcd n.natAbs d.natAbs:=Nat.gcd_pos_of_pos_right _ zo
 have hgd:Nat.gcd n.natAbs d.natAbs≤d.natAbs:=Nat.le_of_dvd zo (Nat.gcd_dvd_right _ _)
 have dn:((Nat.gcd n.natAbs d.natAbs:Nat):Int) ∣ n:=by rw [← Int.dvd_natAbs,Int.ofNat_dvd];exact Nat.gcd_dvd_left _ _
 have dd:((Nat.gcd n.natAbs d.natAbs:Nat):Int) ∣ d:=by rw [← Int.dvd_natAbs,Int.ofNat_dvd];exact Nat.gcd_dvd_right _ _
 have HDV:=zh (fun W=>Divisor_ok (.agg #[.bool bA,.slice paA lA caA]) (.agg #[.bool false,.slice paB lB caB]) n d W)
 generalize Nat.gcd n.natAbs d.natAbs=g at *
 have G0:Hid (0<(g:Int)):=zh zo
 have KG:Hid (sz 10000 (g:Int).natAbs≤274877906944):=zh (Nat.le_trans (sz_mono zo (by simpa using hgd)) hb)
 have DN:=zh dn
 have DD:=zh dd
 have E1:=zh e1
 have E2:=zh e2
 clear e1 e2 Eq hx hy ha hb hd hg0 hgd dn dd
 go_enter Tryz.func135,Tryz.ntmps135
 go_wp2_with fail
 obtain ⟨wq1,EW,hz,X1,X2,X3⟩:=al3 w #[.bool bA,.slice paA lA caA] 121 #[.bool false,.slice paB lB caB] 121 #[.bool false,.slice none 0 0,.bool false,.slice none 0 0] 123
 rw [EW]
 replace NA:=zh (NA.out.later hz)
 replace NB:=zh (NB.out.later hz)
 have hk2:=Bt (Below.refl _ _) hz
 clear EW hz
 refine (HDV.out _ NA.out NB.out KA.out KB.out).mono ?_
 rintro e wc3 ⟨v,rfl,hb3,hv4⟩
 obtain ⟨bG,paG,lG,caG,rfl⟩:=hv4.agg
 replace NA:=zh (NA.out.later hb3)
 replace NB:=zh (NB.out.later hb3)
 replace X1:=X1.bl hb3
 replace X2:=X2.bl hb3
 replace X3:=X3.bl hb3
 have hk5:=Bt hk2 hb3
 clear hk2
 have NG:=zh hv4
 clear hb3 hv4
 obtain ⟨cX1,lX1,fX1⟩:=X1.clf
 go_upto_region 4 with fail
 clear cX1 lX1 fX1
 obtain ⟨wq6,EW,hz,X4⟩:=al1 wc3 #[.bool bG,.slice paG lG caG] 121
 rw [EW]
 replace NA:=zh (NA.out.later hz)
 replace NB:=zh (NB.out.later hz)
 replace X1:=X1.bl hz
 replace X2:=X2.bl hz
 replace X3:=X3.bl hz
 replace NG:=zh (NG.out.later hz)
 have hk7:=Bt hk5 hz
 clear hk5
 clear EW hz
 generalize wc3.heap.size=pq6 at *
 obtain ⟨cX1,lX1,fX1⟩:=X1.clf
 obtain ⟨cX4,lX4,fX4⟩:=X4.clf
 go_wp2_with fail
 clear cX1 lX1 fX1 cX4 lX4 fX4
 refine (Parts_ok _ _ _ _ _ NA.out NG.out KA.out KG.out G0.out (.inr DN.out)).mono ?_
 rintro e wc8 ⟨vx,vy,rfl,hb8,hq,hr⟩
 obtain ⟨bX,paX,lX,caX,rfl⟩:=hq.agg
 obtain ⟨bU,paU,lU,caU,rfl⟩:=hr.agg
 replace NA:=zh (NA.out.later hb8)
 replace NB:=zh (NB.out.later hb8)
 replace X1:=X1.bl hb8
 replace X2:=X2.bl hb8
 replace X3:=X3.bl hb8
 replace NG:=zh (NG.out.later hb8)
 replace X4:=X4.bl hb8
 have hk10:=Bt hk7 hb8
 clear hk7
 have NX:=zh hq
 clear hb8 hq
 obtain ⟨cX2,lX2,fX2⟩:=X2.clf
 obtain ⟨cX4,lX4,fX4⟩:=X4.clf
 go_upto_region 5 with fail
 clear cX2 lX2 fX2 cX4 lX4 fX4
 obtain ⟨wq11,EW,hz,X5, -⟩:=al2 wc8 #[.bool bX,.slice paX lX caX] 121 #[.bool bU,.slice paU lU caU] 121
 rw [EW]
 clear NA
 replace NB:=zh (NB.out.later hz)
 clear X1
 replace X2:=X2.bl hz
 replace X3:=X3.bl hz
 replace NG:=zh (NG.out.later hz)
 replace X4:=X4.bl hz
 replace NX:=zh (NX.out.later hz)
 have hk12:=Bt hk10 hz
 clear hk10
 clear EW hz
 generalize wc8.heap.size=pq11 at *
 obtain ⟨cX2,lX2,fX2⟩:=X2.clf
 obtain ⟨cX4,lX4,fX4⟩:=X4.clf
 go_wp2_with fail
 clear cX2 lX2 fX2 cX4 lX4 fX4
 refine (Parts_ok _ _ _ _ _ NB.out NG.out KB.out KG.out G0.out (.inr DD.out)).mono ?_
 rintro e wc13 ⟨vx,vy,rfl,hb13,hq,hr⟩
 obtain ⟨bY,paY,lY,caY,rfl⟩:=hq.agg
 obtain ⟨bV,paV,lV,caV,rfl⟩:=hr.agg
 replace NB:=zh (NB.out.later hb13)
 replace X2:=X2.bl hb13
 replace X3:=X3.bl hb13
 replace NG:=zh (NG.out.later hb13)
 replace X4:=X4.bl hb13
 replace NX:=zh (NX.out.later hb13)
 replace X5:=X5.bl hb13
 have hk15:=Bt hk12 hb13
 clear hk12
 have NY:=zh hq
 clear hb13 hq
 obtain ⟨cX5,lX5,fX5⟩:=X5.clf
 obtain ⟨cX3,lX3,fX3⟩:=X3.clf
 go_upto_region 6 with fail
 clear cX5 lX5 fX5 cX3 lX3 fX3
 obtain ⟨wq16,EW,hz,X7, -⟩:=al2 wc13 #[.bool bY,.slice paY lY caY] 121 #[.bool bV,.slice paV lV caV] 121
 rw [EW]
 clear NB
 clear X2
 replace X3:=X3.bl hz
 clear NG
 clear X4
 replace NX:=zh (NX.out.later hz)
 replace X5:=X5.bl hz
 replace NY:=zh (NY.out.later hz)
 have hk17:=Bt hk15 hz
 clear hk15
 clear EW hz
 generalize wc13.heap.size=pq16 at *
 obtain ⟨cX5,lX5,fX5⟩:=X5.clf
 obtain ⟨cX7,lX7,fX7⟩:=X7.clf
 obtain ⟨cX3,lX3,fX3⟩:=X3.clf
 have hres:=X3.out
 have cres:=hres.cell
 have fres:=hres.free
 go_wp2_with fail
 refine ret_c rfl rfl boxA Tryz.underlying123 rfl zk ?_
 have hx:=Pl.set4 NX.out hres zd (.bool bX) (.slice paX lX caX) (.bool bY) (.slice paY lY caY)
 have hy:=Pl.set4 NY.out hres zd (.bool bX) (.slice paX lX caX) (.bool bY) (.slice paY lY caY)
 rw [← E1.out] at hx
 rw [← E2.out] at hy
 exact ⟨_,rfl,belA,_,_,_,_,_,_,_,_,rfl,hx,hy⟩
theorem Lowest_neg (x y:Value) (n d:Int) (w:World) (hx:Pl w x n) (hy:Pl w y d) (ha:sz 10000 n.natAbs≤274877906944) (hb:sz 10000 d.natAbs≤274877906944) (hd:d<0) :
  Calls Tryz.prog 135 #[x,y] w (RaPost w ((n:Rat) / (d:Rat))):=by
 obtain ⟨e1,e2⟩:=low_parts (n:= -n) (d:= -d) zo
 rw [show ((-n:Int):Rat) / ((-d:Int):Rat)=(n:Rat) / (d:Rat) by rw [Rat.intCast_neg,Rat.intCast_neg,Rat.div_def,Rat.div_def];grind,Int.natAbs_neg,Int.natAbs_neg] at e1 e2
 obtain ⟨q,Eq⟩:∃ q:Rat,(n:Rat) / (d:Rat)=q:=⟨_,rfl⟩
 rw [Eq] at e1 e2 ⊢
 obtain ⟨bA,paA,lA,caA,rfl⟩:=hx.agg
 obtain ⟨bB,paB,lB,caB,rfl⟩:=hy.agg
 have hbf:bB=true:=by rw [hy.nm.2];simp;omega
 subst hbf
 have NA:=zh hx
 have NB:=zh hy
 have KA:=zh ha
 have KB:=zh hb
 have hg0:0<Nat.gcd n.natAbs d.natAbs:=Nat.gcd_pos_of_pos_right _ zo
 have hgd:Nat.gcd n.natAbs d.natAbs≤d.natAbs:=Nat.le_of_dvd zo (Nat.gcd_dvd_right _ _)
 have dn:((Nat.gcd n.natAbs d.natAbs:Nat):Int) ∣ -n:=by rw [Int.dvd_neg];rw [← Int.dvd_natAbs,Int.ofNat_dvd];exact Nat.gcd_dvd_left _ _
 have dd:((Nat.gcd n.natAbs d.natAbs:Nat):Int) ∣ -d:=by rw [Int.dvd_neg];rw [← Int.dvd_natAbs,Int.ofNat_dvd];exact Nat.gcd_dvd_right _ _
 have HDV:=zh (fun x y W=>Divisor_ok x y (-n) (-d) W)
 have KA':Hid (sz 10000 (-n).natAbs≤274877906944):=zh (by rw [Int.natAbs_neg];exact ha)
 have KB':Hid (sz 10000 (-d).natAbs≤274877906944):=zh (by rw [Int.natAbs_neg];exact hb)
 rw [Int.natAbs_neg,Int.natAbs_neg] at HDV
 generalize Nat.gcd n.natAbs d.natAbs=g at *
 have G0:Hid (0<(g:Int)):=zh zo
 have KG:Hid (sz 10000 (g:Int).natAbs≤274877906944):=zh (Nat.le_trans (sz_mono zo (by simpa using hgd)) hb)
 have DN:=zh dn
 have DD:=zh dd
 have E1:=zh e1
 have E2:=zh e2
 clear e1 e2 Eq hx hy ha hb hd hg0 hgd dn dd
 go_enter Tryz.func135,Tryz.ntmps135
 go_wp2_with fail
 obtain ⟨wq1,EW,hz,X1,X2,X3⟩:=al3 w #[.bool bA,.slice paA lA caA] 121 #[.bool true,.slice paB lB caB] 121 #[.bool false,.slice none 0 0,.bool false,.slice none 0 0] 123
 rw [EW]
 replace NA:=zh (NA.out.later hz)
 replace NB:=zh (NB.out.later hz)
 have hk2:=Bt (Below.refl _ _) hz
 clear EW hz
 obtain ⟨cX1,lX1,fX1⟩:=X1.clf
 obtain ⟨cX2,lX2,fX2⟩:=X2.clf
 refine wp_region_walk [(.read,0),(.read,2),(.ext,1),(.ext,3),(.fin,4),(.fin,5)] zk zk zR zP ?_
 repeat (first|(refine walk_pure0 rfl rfl fun J h=>?_;go_simp;refine h _ ?_;clear h J)|(refine walk_load rfl rfl rfl rfl fun J h=>?_;go_simp;refine h _ ?_;clear h J;try go_simp))
 refine walk_ext rfl rfl (fun we3 hb3 J hJ=>?_);go_simp
 have hh3:Below wq1.heap.size wq1 we3:=belA
 clear hb3
 refine (Turn_ok _ _ _ (NA.out.later hh3)).mono ?_
 rintro e wc4 ⟨v,rfl,hb4,hv5⟩
 obtain ⟨bC,paC,lC,caC,rfl⟩:=hv5.agg
 refine hJ _ _ hb4 ?_
 clear hJ J
 have hh4:=Bt hh3 hb4
 have NC:=zh hv5
 clear hh3 hb4 hv5
 repeat (first|(refine walk_pure0 rfl rfl fun J h=>?_;go_simp;refine h _ ?_;clear h J)|(refine walk_load rfl rfl rfl rfl fun J h=>?_;go_simp;refine h _ ?_;clear h J;try go_simp))
 refine walk_ext rfl rfl (fun we6 hb6 J hJ=>?_);go_simp
 have hh6:Below wq1.heap.size wq1 we6:=Bt hh4 belA
 replace NC:=zh (NC.out.later (show Below wc4.heap.size wc4 we6 from belA))
 clear hb6 hh4
 refine (Turn_ok _ _ _ (NB.out.later hh6)).mono ?_
 rintro e wc7 ⟨v,rfl,hb7,hv8⟩
 obtain ⟨bD,paD,lD,caD,rfl⟩:=hv8.agg
 refine hJ _ _ hb7 ?_
 clear hJ J
 have hh7:=Bt hh6 hb7
 replace NC:=zh (NC.out.later hb7)
 have ND:=zh hv8
 clear hh6 hb7 hv8
 repeat (first|(refine walk_pure0 rfl rfl fun J h=>?_;go_simp;refine h _ ?_;clear h J)|(refine walk_load rfl rfl rfl rfl fun J h=>?_;go_simp;refine h _ ?_;clear h J;try go_simp))
 refine walk_fin [_,_] rfl (fun wf9 hf9=>?_)
 replace NC:=zh (NC.out.later (show Below wc7.heap.size wc7 wf9 from belA))
 replace ND:=zh (ND.out.later (show Below wc7.heap.size wc7 wf9 from belA))
 have hh9:Below wq1.heap.size wq1 wf9:=Bt hh7 belA
 clear hf9 hh7
 clear cX1 lX1 fX1 cX2 lX2 fX2
 replace NA:=zh (NA.out.later hh9)
 replace NB:=zh (NB.out.later hh9)
 replace X1:=X1.bl hh9
 replace X2:=X2.bl hh9
 replace X3:=X3.bl hh9
 have hk10:=Bt hk2 hh9
 clear hk2
 clear hh9
 obtain ⟨cX1,lX1,fX1⟩:=X1.clf
 obtain ⟨cX2,lX2,fX2⟩:=X2.clf
 go_upto_region 3 with fail
 clear cX1 lX1 fX1 cX2 lX2 fX2
 have hz:Below w.heap.size w ((((wf9.setCell ⟨w.heap.size,0,none⟩ (.bool bC)).setCell ⟨w.heap.size,1,none⟩ (.slice paC lC caC)).setCell ⟨w.heap.size+1,0,none⟩ (.bool bD)).setCell ⟨w.heap.size+1,1,none⟩ (.slice paD lD caD)):=belA
 obtain ⟨wq11,EW⟩:∃ y,((((wf9.setCell ⟨w.heap.size,0,none⟩ (.bool bC)).setCell ⟨w.heap.size,1,none⟩ (.slice paC lC caC)).setCell ⟨w.heap.size+1,0,none⟩ (.bool bD)).setCell ⟨w.heap.size+1,1,none⟩ (.slice paD lD caD))=y:=⟨_,rfl⟩
 have tX1:=((((X1.out.set 0 (.bool bC)).set 1 (.slice paC lC caC)).setOther (a:=⟨w.heap.size+1,0,none⟩) (.bool bD) (by first|assumption|(simp;done)|(simp;omega))).setOther (a:=⟨w.heap.size+1,1,none⟩) (.slice paD lD caD) (by first|assumption|(simp;done)|(simp;omega)))
 have tX2:=((((X2.out.setOther (a:=⟨w.heap.size,0,none⟩) (.bool bC) (by first|assumption|(simp;done)|(simp;omega))).setOther (a:=⟨w.heap.size,1,none⟩) (.slice paC lC caC) (by first|assumption|(simp;done)|(simp;omega))).set 0 (.bool bD)).set 1 (.slice paD lD caD))
 have tX3:=((((X3.out.setOther (a:=⟨w.heap.size,0,none⟩) (.bool bC) (by first|assumption|(simp;done)|(simp;omega))).setOther (a:=⟨w.heap.size,1,none⟩) (.slice paC lC caC) (by first|assumption|(simp;done)|(simp;omega))).setOther (a:=⟨w.heap.size+1,0,none⟩) (.bool bD) (by first|assumption|(simp;done)|(simp;omega))).setOther (a:=⟨w.heap.size+1,1,none⟩) (.slice paD lD caD) (by first|assumption|(simp;done)|(simp;omega)))
 have tNC:=((((NC.out.setOther X1.out zd 0 (.bool bC)).setOther (X1.out.set 0 (.bool bC)) zd 1 (.slice paC lC caC)).setOther ((X2.out.setOther (a:=⟨w.heap.size,0,none⟩) (.bool bC) (by first|assumption|(simp;done)|(simp;omega))).setOther (a:=⟨w.heap.size,1,none⟩) (.slice paC lC caC) (by first|assumption|(simp;done)|(simp;omega))) zd 0 (.bool bD)).setOther (((X2.out.setOther (a:=⟨w.heap.size,0,none⟩) (.bool bC) (by first|assumption|(simp;done)|(simp;omega))).setOther (a:=⟨w.heap.size,1,none⟩) (.slice paC lC caC) (by first|assumption|(simp;done)|(simp;omega))).set 0 (.bool bD)) zd 1 (.slice paD lD caD))
 have tND:=((((ND.out.setOther X1.out zd 0 (.bool bC)).setOther (X1.out.set 0 (.bool bC)) zd 1 (.slice paC lC caC)).setOther ((X2.out.setOther (a:=⟨w.heap.size,0,none⟩) (.bool bC) (by first|assumption|(simp;done)|(simp;omega))).setOther (a:=⟨w.heap.size,1,none⟩) (.slice paC lC caC) (by first|assumption|(simp;done)|(simp;omega))) zd 0 (.bool bD)).setOther (((X2.out.setOther (a:=⟨w.heap.size,0,none⟩) (.bool bC) (by first|assumption|(simp;done)|(simp;omega))).setOther (a:=⟨w.heap.size,1,none⟩) (.slice paC lC caC) (by first|assumption|(simp;done)|(simp;omega))).set 0 (.bool bD)) zd 1 (.slice paD lD caD))
 clear NA
 clear NB
 rw [EW] at tX1
 replace X1:Hid (Box wq11 (w.heap.size) #[.bool bC,.slice paC lC caC] 121):=zh tX1
 clear tX1
 rw [EW] at tX2
 replace X2:Hid (Box wq11 (w.heap.size+1) #[.bool bD,.slice paD lD caD] 121):=zh tX2
 clear tX2
 rw [EW] at tX3
 replace X3:Hid (Box wq11 (w.heap.size+1+1) #[.bool false,.slice none 0 0,.bool false,.slice none 0 0] 123):=zh tX3
 clear tX3
 rw [EW] at tNC
 replace NC:=zh tNC
 clear tNC
 rw [EW] at tND
 replace ND:=zh tND
 clear tND
 rw [EW] at hz ⊢
 clear EW
 clear hk10
 have hk11:=hz
 clear hz
 obtain ⟨cX1,lX1,fX1⟩:=X1.clf
 obtain ⟨cX2,lX2,fX2⟩:=X2.clf
 go_wp2_with fail
 clear cX1 lX1 fX1 cX2 lX2 fX2
 refine (HDV.out _ _ _ NC.out ND.out KA.out KB.out).mono ?_
 rintro e wc12 ⟨v,rfl,hb12,hv13⟩
 obtain ⟨bG,paG,lG,caG,rfl⟩:=hv13.agg
 replace X1:=X1.bl hb12
 replace X2:=X2.bl hb12
 replace X3:=X3.bl hb12
 replace NC:=zh (NC.out.later hb12)
 replace ND:=zh (ND.out.later hb12)
 have hk14:=Bt hk11 hb12
 clear hk11
 have NG:=zh hv13
 clear hb12 hv13
 obtain ⟨cX1,lX1,fX1⟩:=X1.clf
 go_upto_region 4 with fail
 clear cX1 lX1 fX1
 obtain ⟨wq15,EW,hz,X4⟩:=al1 wc12 #[.bool bG,.slice paG lG caG] 121
 rw [EW]
 replace X1:=X1.bl hz
 replace X2:=X2.bl hz
 replace X3:=X3.bl hz
 replace NC:=zh (NC.out.later hz)
 replace ND:=zh (ND.out.later hz)
 replace NG:=zh (NG.out.later hz)
 have hk16:=Bt hk14 hz
 clear hk14
 clear EW hz
 generalize wc12.heap.size=pq15 at *
 obtain ⟨cX1,lX1,fX1⟩:=X1.clf
 obtain ⟨cX4,lX4,fX4⟩:=X4.clf
 go_wp2_with fail
 clear cX1 lX1 fX1 cX4 lX4 fX4
 refine (Parts_ok _ _ _ _ _ NC.out NG.out KA'.out KG.out G0.out (.inr DN.out)).mono ?_
 rintro e wc17 ⟨vx,vy,rfl,hb17,hq,hr⟩
 obtain ⟨bX,paX,lX,caX,rfl⟩:=hq.agg
 obtain ⟨bU,paU,lU,caU,rfl⟩:=hr.agg
 replace X1:=X1.bl hb17
 replace X2:=X2.bl hb17
 replace X3:=X3.bl hb17
 replace NC:=zh (NC.out.later hb17)
 replace ND:=zh (ND.out.later hb17)
 replace NG:=zh (NG.out.later hb17)
 replace X4:=X4.bl hb17
 have hk19:=Bt hk16 hb17
 clear hk16
 have NX:=zh hq
 clear hb17 hq
 obtain ⟨cX2,lX2,fX2⟩:=X2.clf
 obtain ⟨cX4,lX4,fX4⟩:=X4.clf
 go_upto_region 5 with fail
 clear cX2 lX2 fX2 cX4 lX4 fX4
 obtain ⟨wq20,EW,hz,X5, -⟩:=al2 wc17 #[.bool bX,.slice paX lX caX] 121 #[.bool bU,.slice paU lU caU] 121
 rw [EW]
 clear X1
 replace X2:=X2.bl hz
 replace X3:=X3.bl hz
 clear NC
 replace ND:=zh (ND.out.later hz)
 replace NG:=zh (NG.out.later hz)
 replace X4:=X4.bl hz
 replace NX:=zh (NX.out.later hz)
 have hk21:=Bt hk19 hz
 clear hk19
 clear EW hz
 generalize wc17.heap.size=pq20 at *
 obtain ⟨cX2,lX2,fX2⟩:=X2.clf
 obtain ⟨cX4,lX4,fX4⟩:=X4.clf
 go_wp2_with fail
 clear cX2 lX2 fX2 cX4 lX4 fX4
 refine (Parts_ok _ _ _ _ _ ND.out NG.out KB'.out KG.out G0.out (.inr DD.out)).mono ?_
 rintro e wc22 ⟨vx,vy,rfl,hb22,hq,hr⟩
 obtain ⟨bY,paY,lY,caY,rfl⟩:=hq.agg
 obtain ⟨bV,paV,lV,caV,rfl⟩:=hr.agg
 replace X2:=X2.bl hb22
 replace X3:=X3.bl hb22
 replace ND:=zh (ND.out.later hb22)
 replace NG:=zh (NG.out.later hb22)
 replace X4:=X4.bl hb22
 replace NX:=zh (NX.out.later hb22)
 replace X5:=X5.bl hb22
 have hk24:=Bt hk21 hb22
 clear hk21
 have NY:=zh hq
 clear hb22 hq
 obtain ⟨cX5,lX5,fX5⟩:=X5.clf
 obtain ⟨cX3,lX3,fX3⟩:=X3.clf
 go_upto_region 6 with fail
 clear cX5 lX5 fX5 cX3 lX3 fX3
 obtain ⟨wq25,EW,hz,X7, -⟩:=al2 wc22 #[.bool bY,.slice paY lY caY] 121 #[.bool bV,.slice paV lV caV] 121
 rw [EW]
 clear X2
 replace X3:=X3.bl hz
 clear ND
 clear NG
 clear X4
 replace NX:=zh (NX.out.later hz)
 replace X5:=X5.bl hz
 replace NY:=zh (NY.out.later hz)
 have hk26:=Bt hk24 hz
 clear hk24
 clear EW hz
 generalize wc22.heap.size=pq25 at *
 obtain ⟨cX5,lX5,fX5⟩:=X5.clf
 obtain ⟨cX7,lX7,fX7⟩:=X7.clf
 obtain ⟨cX3,lX3,fX3⟩:=X3.clf
 have hres:=X3.out
 have cres:=hres.cell
 have fres:=hres.free
 go_wp2_with fail
 refine ret_c rfl rfl boxA Tryz.underlying123 rfl zk ?_
 have hx:=Pl.set4 NX.out hres zd (.bool bX) (.slice paX lX caX) (.bool bY) (.slice paY lY caY)
 have hy:=Pl.set4 NY.out hres zd (.bool bX) (.slice paX lX caX) (.bool bY) (.slice paY lY caY)
 rw [← E1.out] at hx
 rw [← E2.out] at hy
 exact ⟨_,rfl,belA,_,_,_,_,_,_,_,_,rfl,hx,hy⟩
theorem Lowest_ok (x y:Value) (n d:Int) (w:World) (hx:Pl w x n) (hy:Pl w y d) (ha:sz 10000 n.natAbs≤274877906944) (hb:sz 10000 d.natAbs≤274877906944) (hd:d≠0) :
  Calls Tryz.prog 135 #[x,y] w (RaPost w ((n:Rat) / (d:Rat))):=by
 by_cases h:0<d
 ·exact Lowest_pos x y n d w hx hy ha hb h
 ·exact Lowest_neg x y n d w hx hy ha hb zo
end Go.Proofs.verdigrisref02
