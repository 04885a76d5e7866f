/- verdigrislaw25.AdaptMatrices returns true. Conditions: those of the given row. -/
import Derived.Test.YtddblpggomphpaaGreatDoorYB01
import Derived.Test.YtddblpggomphpaaGreatDoorYB02
import Derived.Test.YtddblpggomphpaaGreatDoorYB07
import Derived.Test.YtddblpggomphpaaGreatDoorYB09
import Derived.Test.YtddblpggomphpaaGreatDoorYB12
import Derived.Test.YtddblpggomphpaaGreatDoorYB13
import Derived.Test.YtddblpggomphpaaGreatDoorYB14
import Derived.Test.YtddblpggomphpaaGreatDoorCards
import Derived.Test.YtddblpggomphpaaGreatDoorTie
import Derived.ChangeSame
import Derived.ChangeVars
import Derived.ChangeMaps5
import Derived.ChangeArms
import Derived.JoinedOf
import Derived.SevenTiedAt
set_option linter.unusedVariables false
set_option linter.unusedSimpArgs false
set_option maxRecDepth 100000
set_option maxHeartbeats 16000000
namespace Go.Proofs.verdigrislaw25
open Go Go.RowKit Go.SW Go.Num Go.Mem Go.Proofs Go.Dec Go.dx
def LD (w:World) (f:FuncId) (args:Array Value) (v:Value):Prop:=∀ W,Below w.heap.size w W→Calls Tryz.prog f args W (fun e W'=>e= .returned v∧Below W.heap.size W W')
def TU (w:World) (f:FuncId) (args:Array Value) (er:Int) (m:List (List Fr)):Prop:=∀ W,Below w.heap.size w W→Calls Tryz.prog f args W (aQ W er m)
theorem JY (n d:Int) (h:sm n d=true) (w:World) (ht:pE.Pow w):LD w 22 #[.int .i64 n,.int .i64 d] (Fr.of (q2 n d)).v:=fun W hW=>AO n d h W (ht.later hW)
theorem qU (x y z d:Int) (h:(sm x d&&sm y d&&sm z d)=true) (w:World) (ht:pE.Pow w):LD w 26 #[.int .i64 x,.int .i64 y,.int .i64 z,.int .i64 d] (tq x y z d).v:=fun W hW=>by
 simp only [Bool.and_eq_true] at h
 exact YI x y z d h.1.1 h.1.2 h.2 W (ht.later hW)
theorem ug (k:Int) (a b:light.aW) (d:Fr) (er:Int) (g:light.aW) (he:adapt.gB k a b d=er) (hg:(if er=0 then adapt.bJ (adapt.iN k a b d) else adapt.yS)=g) (w:World) (ht:pE.Pow w) (hc:adapt.kr w) :
  LD w 27 #[.int .i64 k,a.v,b.v,d.v] (.tuple #[g.v,.int .i64 er]):=fun W hW=>(adapt.Un k a b d W (ht.later hW) (hc.later hW)).mono (by
 subst he
 subst hg
 exact fun _ _ h=>⟨h.2,h.1⟩)
theorem JZ (k:Int) (a b:light.aW) (d:Fr) (er:Int) (he:adapt.sK k a b d=er) (w:World) (ht:pE.Pow w) (hc:adapt.kr w) :
  TU w 13 #[.int .i64 k,a.v,b.v,d.v] er (adapt.rQ k a b d).fr:=fun W hW=>he ▸ adapt.D7 k a b d W (ht.later hW) (hc.later hW)
theorem Aw (k:Int) (er:Int) (he:adapt.iB k=er) (w:World) (ht:pE.Pow w) (hc:adapt.kr w) :
  TU w 30 #[.int .i64 k] er (adapt.aY (k - 1).toNat).fr:=fun W hW=>he ▸ adapt.pz k W (ht.later hW) (hc.later hW)
theorem Ov (va:Value) (m:List (List Fr)) (t:light.aW) (er:Int) (g:light.aW) (he:adapt.vR m t=er) (hg:(if er=0 then adapt.vQ m t else adapt.yS)=g) (w:World) (hm:bQ w va m) (ht:pE.Pow w) :
  LD w 20 #[va,t.v] (.tuple #[g.v,.int .i64 er]):=fun W hW=>(adapt.Uy va m t W (hm.later hW) (ht.later hW)).mono (by
 subst he
 subst hg
 exact fun _ _ h=>⟨h.2,h.1⟩)
theorem Fe (va:Value) (m:List (List Fr)) (t:light.aW) (w:World) (hm:bQ w va m) (h3:m.length=3) (h0:m.headD []=t.list):LD w 31 #[va,t.v] (.bool true):=fun W hW=>YL va m t W (hm.later hW) h3 h0
theorem LD.later {w w':World} {f:FuncId} {args:Array Value} {v:Value} (h:LD w f args v) (hb:Below w.heap.size w w'):LD w' f args v:=fun W hW=>h W (Bt hb hW)
theorem TU.later {w w':World} {f:FuncId} {args:Array Value} {er:Int} {m:List (List Fr)} (h:TU w f args er m) (hb:Below w.heap.size w w'):TU w' f args er m:=fun W hW=>h W (Bt hb hW)
theorem EJ {f:Nat→Rat} {x y z d:Int} (h:(decide (f 0=q2 x d)&&decide (f 1=q2 y d)&&decide (f 2=q2 z d))=true):adapt.bJ f=tq x y z d:=by
 simp only [Bool.and_eq_true,decide_eq_true_eq] at h
 unfold adapt.bJ tq
 rw [h.1.1,h.1.2,h.2]
theorem FV {m:matrix.RM} {x y z d:Int} (h:m.headD []=[q2 x d,q2 y d,q2 z d]):m.fr.headD []=(tq x y z d).list:=by
 cases m with
 | nil=>cases h
 | cons r t =>
  have h':r=[q2 x d,q2 y d,q2 z d]:=h
  show r.map Fr.of=_
  rw [h']
  rfl
def Fst (m:List (List Fr)) (t:light.aW):Prop:=m.length=3∧m.headD []=t.list
theorem Qt (w:World) (ht:pE.Pow w) (hc:adapt.kr w):Calls Tryz.prog 9 #[] w (fun e w'=>e= .returned (.bool true)∧Below w.heap.size w w'):=by
 have T1:=zh (qU 1 1 1 1 (by decide+kernel) w ht)
 have T2:=zh (qU 4 2 1 2 (by decide+kernel) w ht)
 have T3:=zh (qU 1 0 1 1 (by decide+kernel) w ht)
 have T4:=zh (qU 1 0 0 1 (by decide+kernel) w ht)
 have T5:=zh (qU 8951 2664 (-1614) 10000 (by decide+kernel) w ht)
 have T6:=zh (qU 6 4 3 4 (by decide+kernel) w ht)
 have T7:=zh (qU 2 0 0 1 (by decide+kernel) w ht)
 have O1:=zh (JY 1 1 (by decide+kernel) w ht)
 have O2:=zh (JY 1 2 (by decide+kernel) w ht)
 have O3:=zh (JY 2 1 (by decide+kernel) w ht)
 have C1:=zh (Aw 1 0 rfl w ht hc)
 have C3:=zh (Aw 3 0 rfl w ht hc)
 have C5:=zh (Aw 5 2 rfl w ht hc)
 have G1:=zh (ug 1 (tq 1 1 1 1) (tq 4 2 1 2) (Fr.of (q2 1 1)) 0 (tq 4 2 1 2) (by decide+kernel) (by rw [if_pos rfl];exact EJ (by decide+kernel)) w ht hc)
 have G2:=zh (ug 1 (tq 1 1 1 1) (tq 4 2 1 2) (Fr.of (q2 1 2)) 0 (tq 6 4 3 4) (by decide+kernel) (by rw [if_pos rfl];exact EJ (by decide+kernel)) w ht hc)
 have G3:=zh (ug 1 (tq 1 1 1 1) (tq 4 2 1 2) (Fr.of (q2 2 1)) 2 adapt.yS (by decide+kernel) (if_neg zd) w ht hc)
 have G4:=zh (ug 1 (tq 1 0 1 1) (tq 4 2 1 2) (Fr.of (q2 1 1)) 2 adapt.yS (by decide+kernel) (if_neg zd) w ht hc)
 have M1:=zh (JZ 1 (tq 1 1 1 1) (tq 4 2 1 2) (Fr.of (q2 1 1)) 0 (by decide+kernel) w ht hc)
 have F1:Hid (Fst (adapt.aY ((1:Int) - 1).toNat).fr (tq 1 0 0 1)):=zh ⟨rfl,FV (by decide+kernel)⟩
 have F3:Hid (Fst (adapt.aY ((3:Int) - 1).toNat).fr (tq 8951 2664 (-1614) 10000)):=zh ⟨rfl,FV (by decide+kernel)⟩
 have FM:Hid (Fst (adapt.rQ 1 (tq 1 1 1 1) (tq 4 2 1 2) (Fr.of (q2 1 1))).fr (tq 2 0 0 1)):=zh ⟨rfl,FV (by decide+kernel)⟩
 have A1:Hid (∀ va W,Below w.heap.size w W→bQ W va (adapt.rQ 1 (tq 1 1 1 1) (tq 4 2 1 2) (Fr.of (q2 1 1))).fr→LD W 20 #[va,(tq 1 1 1 1).v] (.tuple #[(tq 4 2 1 2).v,.int .i64 0])):=zh fun va W hW hm =>
  Ov va _ (tq 1 1 1 1) 0 (tq 4 2 1 2) (by decide+kernel) (by rw [if_pos rfl];exact EJ (by decide+kernel)) W hm (ht.later hW)
 obtain ⟨m1,E⟩:∃ y,(adapt.aY ((1:Int) - 1).toNat).fr=y:=⟨_,rfl⟩
 rw [E] at C1 F1
 clear E
 obtain ⟨m3,E⟩:∃ y,(adapt.aY ((3:Int) - 1).toNat).fr=y:=⟨_,rfl⟩
 rw [E] at C3 F3
 clear E
 obtain ⟨m5,E⟩:∃ y,(adapt.aY ((5:Int) - 1).toNat).fr=y:=⟨_,rfl⟩
 rw [E] at C5
 clear E
 obtain ⟨mm,E⟩:∃ y,(adapt.rQ 1 (tq 1 1 1 1) (tq 4 2 1 2) (Fr.of (q2 1 1))).fr=y:=⟨_,rfl⟩
 rw [E] at M1 FM A1
 clear E
 obtain ⟨⟨⟨k1,k2⟩,⟨k3,k4⟩,⟨k5,k6⟩⟩,E⟩:∃ y:light.aW,adapt.yS=y:=⟨_,rfl⟩
 simp only [E] at G3 G4
 clear E
 obtain ⟨⟨⟨a1,a2⟩,⟨a3,a4⟩,⟨a5,a6⟩⟩,E⟩:∃ y:light.aW,tq 1 1 1 1=y:=⟨_,rfl⟩
 simp only [E] at T1 G1 G2 G3 M1 A1
 clear E
 obtain ⟨⟨⟨b1,b2⟩,⟨b3,b4⟩,⟨b5,b6⟩⟩,E⟩:∃ y:light.aW,tq 4 2 1 2=y:=⟨_,rfl⟩
 simp only [E] at T2 G1 G2 G3 G4 M1 A1
 clear E
 obtain ⟨⟨⟨c1,c2⟩,⟨c3,c4⟩,⟨c5,c6⟩⟩,E⟩:∃ y:light.aW,tq 1 0 1 1=y:=⟨_,rfl⟩
 simp only [E] at T3 G4
 clear E
 obtain ⟨⟨⟨d1,d2⟩,⟨d3,d4⟩,⟨d5,d6⟩⟩,E⟩:∃ y:light.aW,tq 1 0 0 1=y:=⟨_,rfl⟩
 simp only [E] at T4 F1
 clear E
 obtain ⟨⟨⟨e1,e2⟩,⟨e3,e4⟩,⟨e5,e6⟩⟩,E⟩:∃ y:light.aW,tq 8951 2664 (-1614) 10000=y:=⟨_,rfl⟩
 simp only [E] at T5 F3
 clear E
 obtain ⟨⟨⟨f1,f2⟩,⟨f3,f4⟩,⟨f5,f6⟩⟩,E⟩:∃ y:light.aW,tq 6 4 3 4=y:=⟨_,rfl⟩
 simp only [E] at T6 G2
 clear E
 obtain ⟨⟨⟨g1,g2⟩,⟨g3,g4⟩,⟨g5,g6⟩⟩,E⟩:∃ y:light.aW,tq 2 0 0 1=y:=⟨_,rfl⟩
 simp only [E] at T7 FM
 clear E
 obtain ⟨⟨h1,h2⟩,E⟩:∃ y:Fr,Fr.of (q2 1 1)=y:=⟨_,rfl⟩
 rw [E] at O1 G1 G4 M1
 clear E
 obtain ⟨⟨i1,i2⟩,E⟩:∃ y:Fr,Fr.of (q2 1 2)=y:=⟨_,rfl⟩
 rw [E] at O2 G2
 clear E
 obtain ⟨⟨j1,j2⟩,E⟩:∃ y:Fr,Fr.of (q2 2 1)=y:=⟨_,rfl⟩
 rw [E] at O3 G3
 clear E
 unfold light.aW.v light.aW.cells Fr.v at *
 dsimp only at T1 T2 T3 T4 T5 T6 T7 G1 G2 G3 G4 M1 A1 O1 O2 O3
 clear ht hc
 go_enter Tryz.func9,Tryz.ntmps9
 have Xf:= @Av
 go_wp2_with fail
 refine (T1.out _ (Below.refl _ _)).mono ?_
 rintro e wc1 ⟨rfl,hb1⟩
 have hk2:=Bt (Below.refl _ _) hb1
 clear hb1
 go_wp2_with fail
 refine (T2.out _ hk2).mono ?_
 rintro e fM ⟨rfl,hb3⟩
 have hk4:=Bt hk2 hb3
 clear hk2
 clear hb3
 go_wp2_with fail
 have hz:Below fM.heap.size fM ((fM.alloc (.cells #[.string a1,.string a2,.string a3,.string a4,.string a5,.string a6] 38)).alloc (.cells #[.string b1,.string b2,.string b3,.string b4,.string b5,.string b6] 38)):=aA
 obtain ⟨wq5,EW⟩:∃ y,((fM.alloc (.cells #[.string a1,.string a2,.string a3,.string a4,.string a5,.string a6] 38)).alloc (.cells #[.string b1,.string b2,.string b3,.string b4,.string b5,.string b6] 38))=y:=⟨_,rfl⟩
 have X1:Hid (au wq5 (fM.heap.size) #[.string a1,.string a2,.string a3,.string a4,.string a5,.string a6] 38):=zh (by rw [← EW];exact au.alloc (au.new _ _ _) _)
 have X2:Hid (au wq5 (fM.heap.size+1) #[.string b1,.string b2,.string b3,.string b4,.string b5,.string b6] 38):=zh (by rw [← EW];exact au.fZ _ _ _ _)
 rw [EW] at hz ⊢
 have hk6:=Bt hk4 hz
 clear hk4
 clear EW hz
 generalize fM.heap.size=pq5 at *
 refine (C1.out _ hk6).mono ?_
 rintro e ku ⟨dQ,v,rfl,hy, -⟩
 have kC:=hy rfl
 obtain ⟨rs,hR, -⟩:=id kC
 obtain ⟨vm8,qm8,rfl, -⟩:=hR
 generalize rs.length=nm8 at kC
 clear hy
 replace X1:=zh (X1.out.later dQ)
 replace X2:=zh (X2.out.later dQ)
 have hk9:=Bt hk6 dQ
 clear hk6
 have pV:=zh kC
 clear kC
 clear dQ
 go_wp2_with fail
 refine (C3.out _ hk9).mono ?_
 rintro e dO ⟨dh,v,rfl,hy, -⟩
 have fJ:=hy rfl
 obtain ⟨rs,hR, -⟩:=id fJ
 obtain ⟨aO4,aO7,rfl, -⟩:=hR
 generalize rs.length=aR7 at fJ
 clear hy
 replace X1:=zh (X1.out.later dh)
 replace X2:=zh (X2.out.later dh)
 replace pV:=zh (pV.out.later dh)
 have Pf:=Bt hk9 dh
 clear hk9
 have rJ:=zh fJ
 clear fJ
 clear dh
 go_wp2_with fail
 refine (C5.out _ Pf).mono ?_
 rintro e gY ⟨fF,v,rfl, -, hy⟩
 have hz:=hy zd
 subst hz
 clear hy
 replace X1:=zh (X1.out.later fF)
 replace X2:=zh (X2.out.later fF)
 replace pV:=zh (pV.out.later fF)
 replace rJ:=zh (rJ.out.later fF)
 have CB:=Bt Pf fF
 clear Pf
 clear fF
 go_wp2_with fail
 have eP:=X1.out.cell;have eO:=X1.out.lt
 have dY:=X2.out.cell;have dW:=X2.out.lt
 refine aC [(.read,0),(.read,1),(.ext,2),(.ext,3),(.pure,4),(.pure,5),(.pure,6),(.alloc #[.string ⟨#[]⟩,.string ⟨#[]⟩,.string ⟨#[]⟩,.string ⟨#[]⟩,.string ⟨#[]⟩,.string ⟨#[]⟩] 37,7),(.fin,8),(.fin,9)] zk zk zR zP ?_
 repeat (first|(refine ah rfl rfl fun J h=>?_;go_simp;refine h _ ?_;clear h J)|(refine aB rfl rfl rfl rfl fun J h=>?_;go_simp;refine h _ ?_;clear h J;try go_simp))
 refine aD rfl rfl (fun Qv jF J hJ=>?_);go_simp
 have nH:Below gY.heap.size gY Qv:=aA
 clear jF
 refine (O1.out _ (Bt CB nH)).mono ?_
 rintro e Cn ⟨rfl,oK⟩
 refine hJ _ _ oK ?_
 clear hJ J
 have sP:=Bt nH oK
 clear nH oK
 repeat (first|(refine ah rfl rfl fun J h=>?_;go_simp;refine h _ ?_;clear h J)|(refine aB rfl rfl rfl rfl fun J h=>?_;go_simp;refine h _ ?_;clear h J;try go_simp))
 refine aD rfl rfl (fun pG nI J hJ=>?_);go_simp
 have rT:Below gY.heap.size gY pG:=Bt sP aA
 clear sP
 clear nI
 refine (G1.out _ (Bt CB rT)).mono ?_
 rintro e kU ⟨rfl,jk⟩
 refine hJ _ _ jk ?_
 clear hJ J
 have rR:=Bt rT jk
 clear rT jk
 repeat (first|(refine ah rfl rfl fun J h=>?_;go_simp;refine h _ ?_;clear h J)|(refine aB rfl rfl rfl rfl fun J h=>?_;go_simp;refine h _ ?_;clear h J;try go_simp))
 refine aR rfl (fun Jo aO1 ao6 tC VT ad5 FJ=>?_);go_simp;replace FJ:au _ _ _ _:=FJ;have ac6:w.heap.size≤Jo:=(by first|omega|exact Nat.le_trans (Below.size (B:=w.heap.size) aA) tC)
 refine aI [_,_] rfl (fun oJ CW=>?_)
 have kM:Below gY.heap.size gY oJ:=Bt rR aA
 have hq:=FJ.later CW
 have cq:=hq.cell
 have fq:=hq.free
 clear FJ CW rR
 clear eP eO dY dW
 go_wp2_with fail
 obtain ⟨Ck,EW⟩:∃ y,((((((oJ.setCell ⟨Jo,0,none⟩ (.string b1)).setCell ⟨Jo,1,none⟩ (.string b2)).setCell ⟨Jo,2,none⟩ (.string b3)).setCell ⟨Jo,3,none⟩ (.string b4)).setCell ⟨Jo,4,none⟩ (.string b5)).setCell ⟨Jo,5,none⟩ (.string b6))=y:=⟨_,rfl⟩
 have hz:Below gY.heap.size gY Ck:=by rw [← EW];exact ((((((kM.setCell tC _).setCell tC _).setCell tC _).setCell tC _).setCell tC _).setCell tC _)
 have X3:Hid (au Ck Jo #[.string b1,.string b2,.string b3,.string b4,.string b5,.string b6] 37):=zh (by rw [← EW];exact ((((((hq.set 0 _).set 1 _).set 2 _).set 3 _).set 4 _).set 5 _))
 rw [EW]
 clear EW hq cq fq kM
 replace X1:=zh (X1.out.later hz)
 replace X2:=zh (X2.out.later hz)
 replace pV:=zh (pV.out.later hz)
 replace rJ:=zh (rJ.out.later hz)
 have Sc:=Bt CB hz
 clear CB
 clear hz
 clear ao6 tC VT ad5 ac6
 go_wp2_with fail
 have eP:=X1.out.cell;have eO:=X1.out.lt
 have dY:=X2.out.cell;have dW:=X2.out.lt
 refine aC [(.read,0),(.read,1),(.ext,2),(.ext,3),(.pure,4),(.pure,5),(.pure,6),(.alloc #[.string ⟨#[]⟩,.string ⟨#[]⟩,.string ⟨#[]⟩,.string ⟨#[]⟩,.string ⟨#[]⟩,.string ⟨#[]⟩] 37,7),(.fin,8),(.fin,9)] zk zk zR zP ?_
 repeat (first|(refine ah rfl rfl fun J h=>?_;go_simp;refine h _ ?_;clear h J)|(refine aB rfl rfl rfl rfl fun J h=>?_;go_simp;refine h _ ?_;clear h J;try go_simp))
 refine aD rfl rfl (fun aA4 V9 J hJ=>?_);go_simp
 have Pk:Below Ck.heap.size Ck aA4:=aA
 clear V9
 refine (O2.out _ (Bt Sc Pk)).mono ?_
 rintro e aN0 ⟨rfl,Pq⟩
 refine hJ _ _ Pq ?_
 clear hJ J
 have as2:=Bt Pk Pq
 clear Pk Pq
 repeat (first|(refine ah rfl rfl fun J h=>?_;go_simp;refine h _ ?_;clear h J)|(refine aB rfl rfl rfl rfl fun J h=>?_;go_simp;refine h _ ?_;clear h J;try go_simp))
 refine aD rfl rfl (fun aA3 V8 J hJ=>?_);go_simp
 have aa2:Below Ck.heap.size Ck aA3:=Bt as2 aA
 clear as2
 clear V8
 refine (G2.out _ (Bt Sc aa2)).mono ?_
 rintro e aB2 ⟨rfl,wT⟩
 refine hJ _ _ wT ?_
 clear hJ J
 have as1:=Bt aa2 wT
 clear aa2 wT
 repeat (first|(refine ah rfl rfl fun J h=>?_;go_simp;refine h _ ?_;clear h J)|(refine aB rfl rfl rfl rfl fun J h=>?_;go_simp;refine h _ ?_;clear h J;try go_simp))
 refine aR rfl (fun Jm aN9 ao4 sZ VQ ad3 FH=>?_);go_simp;replace FH:au _ _ _ _:=FH;have ac4:w.heap.size≤Jm:=(by first|omega|exact Nat.le_trans (Below.size (B:=w.heap.size) aA) sZ)
 refine aI [_,_] rfl (fun am1 as7=>?_)
 have as0:Below Ck.heap.size Ck am1:=Bt as1 aA
 have hq:=FH.later as7
 have cq:=hq.cell
 have fq:=hq.free
 clear FH as7 as1
 clear eP eO dY dW
 go_wp2_with fail
 obtain ⟨GQ,EW⟩:∃ y,((((((am1.setCell ⟨Jm,0,none⟩ (.string f1)).setCell ⟨Jm,1,none⟩ (.string f2)).setCell ⟨Jm,2,none⟩ (.string f3)).setCell ⟨Jm,3,none⟩ (.string f4)).setCell ⟨Jm,4,none⟩ (.string f5)).setCell ⟨Jm,5,none⟩ (.string f6))=y:=⟨_,rfl⟩
 have hz:Below Ck.heap.size Ck GQ:=by rw [← EW];exact ((((((as0.setCell sZ _).setCell sZ _).setCell sZ _).setCell sZ _).setCell sZ _).setCell sZ _)
 have X4:Hid (au GQ Jm #[.string f1,.string f2,.string f3,.string f4,.string f5,.string f6] 37):=zh (by rw [← EW];exact ((((((hq.set 0 _).set 1 _).set 2 _).set 3 _).set 4 _).set 5 _))
 rw [EW]
 clear EW hq cq fq as0
 replace X1:=zh (X1.out.later hz)
 replace X2:=zh (X2.out.later hz)
 replace pV:=zh (pV.out.later hz)
 replace rJ:=zh (rJ.out.later hz)
 replace X3:=zh (X3.out.later hz)
 have hk31:=Bt Sc hz
 clear Sc
 clear hz
 clear ao4 sZ VQ ad3 ac4
 go_wp2_with fail
 have eP:=X1.out.cell;have eO:=X1.out.lt
 have dY:=X2.out.cell;have dW:=X2.out.lt
 refine aC [(.read,0),(.read,1),(.ext,2),(.ext,3),(.pure,4),(.pure,5),(.pure,6),(.fin,7),(.fin,8)] zk zk zR zP ?_
 repeat (first|(refine ah rfl rfl fun J h=>?_;go_simp;refine h _ ?_;clear h J)|(refine aB rfl rfl rfl rfl fun J h=>?_;go_simp;refine h _ ?_;clear h J;try go_simp))
 refine aD rfl rfl (fun aA2 ac1 J hJ=>?_);go_simp
 have aa1:Below GQ.heap.size GQ aA2:=aA
 clear ac1
 refine (O1.out _ (Bt hk31 aa1)).mono ?_
 rintro e aM9 ⟨rfl,Lb⟩
 refine hJ _ _ Lb ?_
 clear hJ J
 have ar9:=Bt aa1 Lb
 clear aa1 Lb
 repeat (first|(refine ah rfl rfl fun J h=>?_;go_simp;refine h _ ?_;clear h J)|(refine aB rfl rfl rfl rfl fun J h=>?_;go_simp;refine h _ ?_;clear h J;try go_simp))
 refine aD rfl rfl (fun aA1 SE J hJ=>?_);go_simp
 have aa0:Below GQ.heap.size GQ aA1:=Bt ar9 aA
 clear ar9
 clear SE
 refine (M1.out _ (Bt hk31 aa0)).mono ?_
 rintro e aM8 ⟨V7,v,rfl,hy, -⟩
 have VJ:=hy rfl
 obtain ⟨rs,hR, -⟩:=id VJ
 obtain ⟨aO3,aO6,rfl, -⟩:=hR
 generalize rs.length=aR6 at VJ hJ
 clear hy
 refine hJ _ _ V7 ?_
 clear hJ J
 have ar8:=Bt aa0 V7
 have aD7:=V7
 clear aa0 V7
 clear aD7
 repeat (first|(refine ah rfl rfl fun J h=>?_;go_simp;refine h _ ?_;clear h J)|(refine aB rfl rfl rfl rfl fun J h=>?_;go_simp;refine h _ ?_;clear h J;try go_simp))
 refine aI [_,_] rfl (fun am0 aE3=>?_)
 have Iy:Below GQ.heap.size GQ am0:=Bt ar8 aA
 have zD:=zh (VJ.later (w':=am0) aA)
 clear VJ
 clear aE3 ar8
 clear eP eO dY dW
 replace X1:=zh (X1.out.later Iy)
 replace X2:=zh (X2.out.later Iy)
 replace pV:=zh (pV.out.later Iy)
 replace rJ:=zh (rJ.out.later Iy)
 replace X3:=zh (X3.out.later Iy)
 replace X4:=zh (X4.out.later Iy)
 have ZJ:=Bt hk31 Iy
 clear hk31
 clear Iy
 have eP:=X1.out.cell;have eO:=X1.out.lt
 go_wp2_with fail
 clear eP eO
 refine (A1.out _ _ ZJ zD.out _ (Below.refl _ _)).mono ?_
 rintro e Od ⟨rfl,FX⟩
 replace X1:=zh (X1.out.later FX)
 replace X2:=zh (X2.out.later FX)
 replace pV:=zh (pV.out.later FX)
 replace rJ:=zh (rJ.out.later FX)
 replace X3:=zh (X3.out.later FX)
 replace X4:=zh (X4.out.later FX)
 replace zD:=zh (zD.out.later FX)
 have ap9:=Bt ZJ FX
 clear ZJ
 clear FX
 go_wp2_with fail
 have hz:Below Od.heap.size Od (Od.alloc (.cells #[.string b1,.string b2,.string b3,.string b4,.string b5,.string b6] 38)):=aA
 obtain ⟨Ee,EW⟩:∃ y,(Od.alloc (.cells #[.string b1,.string b2,.string b3,.string b4,.string b5,.string b6] 38))=y:=⟨_,rfl⟩
 have X5:Hid (au Ee (Od.heap.size) #[.string b1,.string b2,.string b3,.string b4,.string b5,.string b6] 38):=zh (by rw [← EW];exact au.new _ _ _)
 rw [EW] at hz ⊢
 replace X1:=zh (X1.out.later hz)
 replace X2:=zh (X2.out.later hz)
 replace pV:=zh (pV.out.later hz)
 replace rJ:=zh (rJ.out.later hz)
 replace X3:=zh (X3.out.later hz)
 replace X4:=zh (X4.out.later hz)
 replace zD:=zh (zD.out.later hz)
 have VW:=Bt ap9 hz
 clear ap9
 clear EW hz
 generalize Od.heap.size=aO8 at *
 have eP:=X1.out.cell;have eO:=X1.out.lt
 have dY:=X2.out.cell;have dW:=X2.out.lt
 refine aC [(.read,0),(.read,1),(.ext,2),(.ext,3),(.pure,4),(.pure,5),(.pure,6),(.alloc #[.string ⟨#[]⟩,.string ⟨#[]⟩,.string ⟨#[]⟩,.string ⟨#[]⟩,.string ⟨#[]⟩,.string ⟨#[]⟩] 37,7),(.fin,8),(.fin,9)] zk zk zR zP ?_
 repeat (first|(refine ah rfl rfl fun J h=>?_;go_simp;refine h _ ?_;clear h J)|(refine aB rfl rfl rfl rfl fun J h=>?_;go_simp;refine h _ ?_;clear h J;try go_simp))
 refine aD rfl rfl (fun aA0 aG4 J hJ=>?_);go_simp
 have Z9:Below Ee.heap.size Ee aA0:=aA
 clear aG4
 refine (O3.out _ (Bt VW Z9)).mono ?_
 rintro e aM7 ⟨rfl,ac0⟩
 refine hJ _ _ ac0 ?_
 clear hJ J
 have ar7:=Bt Z9 ac0
 clear Z9 ac0
 repeat (first|(refine ah rfl rfl fun J h=>?_;go_simp;refine h _ ?_;clear h J)|(refine aB rfl rfl rfl rfl fun J h=>?_;go_simp;refine h _ ?_;clear h J;try go_simp))
 refine aD rfl rfl (fun az9 aG3 J hJ=>?_);go_simp
 have Z8:Below Ee.heap.size Ee az9:=Bt ar7 aA
 clear ar7
 clear aG3
 refine (G3.out _ (Bt VW Z8)).mono ?_
 rintro e aM6 ⟨rfl,ab9⟩
 refine hJ _ _ ab9 ?_
 clear hJ J
 have ar6:=Bt Z8 ab9
 clear Z8 ab9
 repeat (first|(refine ah rfl rfl fun J h=>?_;go_simp;refine h _ ?_;clear h J)|(refine aB rfl rfl rfl rfl fun J h=>?_;go_simp;refine h _ ?_;clear h J;try go_simp))
 refine aR rfl (fun Lv aN8 ao3 sW VP ad2 FE=>?_);go_simp;replace FE:au _ _ _ _:=FE;have ac3:w.heap.size≤Lv:=(by first|omega|exact Nat.le_trans (Below.size (B:=w.heap.size) aA) sW)
 refine aI [_,_] rfl (fun al9 as6=>?_)
 have ar5:Below Ee.heap.size Ee al9:=Bt ar6 aA
 have hq:=FE.later as6
 have cq:=hq.cell
 have fq:=hq.free
 clear FE as6 ar6
 clear eP eO dY dW
 go_wp2_with fail
 obtain ⟨zX,EW⟩:∃ y,((((((al9.setCell ⟨Lv,0,none⟩ (.string k1)).setCell ⟨Lv,1,none⟩ (.string k2)).setCell ⟨Lv,2,none⟩ (.string k3)).setCell ⟨Lv,3,none⟩ (.string k4)).setCell ⟨Lv,4,none⟩ (.string k5)).setCell ⟨Lv,5,none⟩ (.string k6))=y:=⟨_,rfl⟩
 have hz:Below Ee.heap.size Ee zX:=by rw [← EW];exact ((((((ar5.setCell sW _).setCell sW _).setCell sW _).setCell sW _).setCell sW _).setCell sW _)
 rw [EW]
 clear EW hq cq fq ar5
 replace X1:=zh (X1.out.later hz)
 replace X2:=zh (X2.out.later hz)
 replace pV:=zh (pV.out.later hz)
 replace rJ:=zh (rJ.out.later hz)
 replace X3:=zh (X3.out.later hz)
 replace X4:=zh (X4.out.later hz)
 replace zD:=zh (zD.out.later hz)
 replace X5:=zh (X5.out.later hz)
 have Sb:=Bt VW hz
 clear VW
 clear hz
 clear ao3 sW VP ad2 ac3
 go_wp2_with fail
 have dY:=X2.out.cell;have dW:=X2.out.lt
 refine aC [(.read,1),(.ext,0),(.ext,2),(.ext,3),(.pure,4),(.pure,5),(.pure,6),(.alloc #[.string ⟨#[]⟩,.string ⟨#[]⟩,.string ⟨#[]⟩,.string ⟨#[]⟩,.string ⟨#[]⟩,.string ⟨#[]⟩] 37,7),(.fin,8),(.fin,9)] zk zk zR zP ?_
 repeat (first|(refine ah rfl rfl fun J h=>?_;go_simp;refine h _ ?_;clear h J)|(refine aB rfl rfl rfl rfl fun J h=>?_;go_simp;refine h _ ?_;clear h J;try go_simp))
 refine aD rfl rfl (fun az8 aG2 J hJ=>?_);go_simp
 have Z7:Below zX.heap.size zX az8:=aA
 clear aG2
 refine (T3.out _ (Bt Sb Z7)).mono ?_
 rintro e aM5 ⟨rfl,ab8⟩
 refine hJ _ _ ab8 ?_
 clear hJ J
 have ar4:=Bt Z7 ab8
 clear Z7 ab8
 repeat (first|(refine ah rfl rfl fun J h=>?_;go_simp;refine h _ ?_;clear h J)|(refine aB rfl rfl rfl rfl fun J h=>?_;go_simp;refine h _ ?_;clear h J;try go_simp))
 refine aD rfl rfl (fun az7 aG1 J hJ=>?_);go_simp
 have Z6:Below zX.heap.size zX az7:=Bt ar4 aA
 clear ar4
 clear aG1
 refine (O1.out _ (Bt Sb Z6)).mono ?_
 rintro e aM4 ⟨rfl,ab7⟩
 refine hJ _ _ ab7 ?_
 clear hJ J
 have ar3:=Bt Z6 ab7
 clear Z6 ab7
 repeat (first|(refine ah rfl rfl fun J h=>?_;go_simp;refine h _ ?_;clear h J)|(refine aB rfl rfl rfl rfl fun J h=>?_;go_simp;refine h _ ?_;clear h J;try go_simp))
 refine aD rfl rfl (fun az6 aG0 J hJ=>?_);go_simp
 have Z0:Below zX.heap.size zX az6:=Bt ar3 aA
 clear ar3
 clear aG0
 refine (G4.out _ (Bt Sb Z0)).mono ?_
 rintro e aM3 ⟨rfl,La⟩
 refine hJ _ _ La ?_
 clear hJ J
 have ar2:=Bt Z0 La
 clear Z0 La
 repeat (first|(refine ah rfl rfl fun J h=>?_;go_simp;refine h _ ?_;clear h J)|(refine aB rfl rfl rfl rfl fun J h=>?_;go_simp;refine h _ ?_;clear h J;try go_simp))
 refine aR rfl (fun Lu aN7 ao2 sV VO ad1 FD=>?_);go_simp;replace FD:au _ _ _ _:=FD;have ac2:w.heap.size≤Lu:=(by first|omega|exact Nat.le_trans (Below.size (B:=w.heap.size) aA) sV)
 refine aI [_,_] rfl (fun al8 as5=>?_)
 have ar1:Below zX.heap.size zX al8:=Bt ar2 aA
 have hq:=FD.later as5
 have cq:=hq.cell
 have fq:=hq.free
 clear FD as5 ar2
 clear dY dW
 go_wp2_with fail
 obtain ⟨r9,EW⟩:∃ y,((((((al8.setCell ⟨Lu,0,none⟩ (.string k1)).setCell ⟨Lu,1,none⟩ (.string k2)).setCell ⟨Lu,2,none⟩ (.string k3)).setCell ⟨Lu,3,none⟩ (.string k4)).setCell ⟨Lu,4,none⟩ (.string k5)).setCell ⟨Lu,5,none⟩ (.string k6))=y:=⟨_,rfl⟩
 have hz:Below zX.heap.size zX r9:=by rw [← EW];exact ((((((ar1.setCell sV _).setCell sV _).setCell sV _).setCell sV _).setCell sV _).setCell sV _)
 rw [EW]
 clear EW hq cq fq ar1
 clear X1
 replace X2:=zh (X2.out.later hz)
 replace pV:=zh (pV.out.later hz)
 replace rJ:=zh (rJ.out.later hz)
 replace X3:=zh (X3.out.later hz)
 replace X4:=zh (X4.out.later hz)
 replace zD:=zh (zD.out.later hz)
 replace X5:=zh (X5.out.later hz)
 have O8:=Bt Sb hz
 clear Sb
 clear hz
 clear ao2 sV VO ad1 ac2
 go_wp2_with fail
 have mo:=X3.out.cell;have mg:=X3.out.lt
 have dY:=X2.out.cell;have dW:=X2.out.lt
 have rX:=X4.out.cell;have rW:=X4.out.lt
 have zS:=X5.out.cell;have zJ:=X5.out.lt
 refine aC ((.pure,0)::(.pure,1)::(.pure,2)::(.pure,3)::(.ext,4)::(.ext,5)::(.pure,6)::(.pure,7)::(.pure,8)::(.pure,9)::(.pure,10)::(.pure,11)::(.pure,12)::(.ext,13)::(.ext,14)::(.pure,15)::(.pure,16)::(.pure,17)::(.pure,18)::(.pure,19)::(.pure,20)::(.pure,21)::(.pure,22)::(.pure,23)::(.pure,24)::(.read,25)::(.read,26)::(.pure,27)::(.pure,28)::(.pure,29)::(.pure,30)::(.pure,31)::(.pure,32)::(.pure,33)::(.read,34)::(.ext,35)::(.pure,36)::(.pure,37)::(.pure,38)::(.pure,39)::(.pure,40)::(.pure,41)::(.pure,42)::(.pure,43)::(.ext,44)::(.ext,45)::(.pure,46)::(.pure,47)::(.pure,48)::(.pure,49)::(.pure,50)::(.pure,51)::(.read,52)::(.read,53)::(.pure,54)::(.pure,55)::(.pure,56)::(.pure,57)::(.pure,58)::(.pure,59)::(.pure,60)::(.pure,61)::(.pure,62)::(.pure,63)::(.fin,64)::[]) zk zk zR zP ?_
 repeat (first|(refine ah rfl rfl fun J h=>?_;go_simp;refine h _ ?_;clear h J)|(refine aB rfl rfl rfl rfl fun J h=>?_;go_simp;refine h _ ?_;clear h J;try go_simp)|(refine gZ rfl rfl fun J h=>?_;go_simp;refine h _ ?_;clear h J)|(refine ig rfl rfl rfl rfl fun J h=>?_;go_simp;refine h _ ?_;clear h J;try go_simp))
 refine j4 rfl rfl (fun az5 aF9 J hJ=>?_);go_simp
 have ZV:Below r9.heap.size r9 az5:=aA
 clear aF9
 refine (T4.out _ (Bt O8 ZV)).mono ?_
 rintro e aM2 ⟨rfl,ab6⟩
 refine hJ _ _ ab6 ?_
 clear hJ J
 have CV:=Bt ZV ab6
 clear ZV ab6
 clear mo mg dY dW rX rW zS zJ
 have mo:=(X3.out.later CV).cell;have mg:=(X3.out.later CV).lt
 have dY:=(X2.out.later CV).cell;have dW:=(X2.out.later CV).lt
 have rX:=(X4.out.later CV).cell;have rW:=(X4.out.later CV).lt
 have zS:=(X5.out.later CV).cell;have zJ:=(X5.out.later CV).lt
 repeat (first|(refine ah rfl rfl fun J h=>?_;go_simp;refine h _ ?_;clear h J)|(refine aB rfl rfl rfl rfl fun J h=>?_;go_simp;refine h _ ?_;clear h J;try go_simp)|(refine gZ rfl rfl fun J h=>?_;go_simp;refine h _ ?_;clear h J)|(refine ig rfl rfl rfl rfl fun J h=>?_;go_simp;refine h _ ?_;clear h J;try go_simp))
 refine j4 rfl rfl (fun az4 aF8 J hJ=>?_);go_simp
 have ZU:Below r9.heap.size r9 az4:=Bt CV aA
 clear CV
 clear aF8
 refine (Fe _ _ ⟨⟨d1,d2⟩,⟨d3,d4⟩,⟨d5,d6⟩⟩ _ (pV.out.later ZU) F1.out.1 F1.out.2 _ (Below.refl _ _)).mono ?_
 rintro e aM1 ⟨rfl,ab5⟩
 refine hJ _ _ ab5 ?_
 clear hJ J
 have CU:=Bt ZU ab5
 clear ZU ab5
 clear mo mg dY dW rX rW zS zJ
 have mo:=(X3.out.later CU).cell;have mg:=(X3.out.later CU).lt
 have dY:=(X2.out.later CU).cell;have dW:=(X2.out.later CU).lt
 have rX:=(X4.out.later CU).cell;have rW:=(X4.out.later CU).lt
 have zS:=(X5.out.later CU).cell;have zJ:=(X5.out.later CU).lt
 repeat (first|(refine ah rfl rfl fun J h=>?_;go_simp;refine h _ ?_;clear h J)|(refine aB rfl rfl rfl rfl fun J h=>?_;go_simp;refine h _ ?_;clear h J;try go_simp)|(refine gZ rfl rfl fun J h=>?_;go_simp;refine h _ ?_;clear h J)|(refine ig rfl rfl rfl rfl fun J h=>?_;go_simp;refine h _ ?_;clear h J;try go_simp))
 refine j4 rfl rfl (fun az3 aF7 J hJ=>?_);go_simp
 have ZT:Below r9.heap.size r9 az3:=Bt CU aA
 clear CU
 clear aF7
 refine (T5.out _ (Bt O8 ZT)).mono ?_
 rintro e aM0 ⟨rfl,ab4⟩
 refine hJ _ _ ab4 ?_
 clear hJ J
 have CQ:=Bt ZT ab4
 clear ZT ab4
 clear mo mg dY dW rX rW zS zJ
 have mo:=(X3.out.later CQ).cell;have mg:=(X3.out.later CQ).lt
 have dY:=(X2.out.later CQ).cell;have dW:=(X2.out.later CQ).lt
 have rX:=(X4.out.later CQ).cell;have rW:=(X4.out.later CQ).lt
 have zS:=(X5.out.later CQ).cell;have zJ:=(X5.out.later CQ).lt
 repeat (first|(refine ah rfl rfl fun J h=>?_;go_simp;refine h _ ?_;clear h J)|(refine aB rfl rfl rfl rfl fun J h=>?_;go_simp;refine h _ ?_;clear h J;try go_simp)|(refine gZ rfl rfl fun J h=>?_;go_simp;refine h _ ?_;clear h J)|(refine ig rfl rfl rfl rfl fun J h=>?_;go_simp;refine h _ ?_;clear h J;try go_simp))
 refine j4 rfl rfl (fun az2 aF6 J hJ=>?_);go_simp
 have ZR:Below r9.heap.size r9 az2:=Bt CQ aA
 clear CQ
 clear aF6
 refine (Fe _ _ ⟨⟨e1,e2⟩,⟨e3,e4⟩,⟨e5,e6⟩⟩ _ (rJ.out.later ZR) F3.out.1 F3.out.2 _ (Below.refl _ _)).mono ?_
 rintro e aL9 ⟨rfl,ab3⟩
 refine hJ _ _ ab3 ?_
 clear hJ J
 have CP:=Bt ZR ab3
 clear ZR ab3
 clear mo mg dY dW rX rW zS zJ
 have mo:=(X3.out.later CP).cell;have mg:=(X3.out.later CP).lt
 have dY:=(X2.out.later CP).cell;have dW:=(X2.out.later CP).lt
 have rX:=(X4.out.later CP).cell;have rW:=(X4.out.later CP).lt
 have zS:=(X5.out.later CP).cell;have zJ:=(X5.out.later CP).lt
 repeat (first|(refine ah rfl rfl fun J h=>?_;go_simp;refine h _ ?_;clear h J)|(refine aB rfl rfl rfl rfl fun J h=>?_;go_simp;refine h _ ?_;clear h J;try go_simp)|(refine gZ rfl rfl fun J h=>?_;go_simp;refine h _ ?_;clear h J)|(refine ig rfl rfl rfl rfl fun J h=>?_;go_simp;refine h _ ?_;clear h J;try go_simp))
 refine j4 rfl rfl (fun az1 aF5 J hJ=>?_);go_simp
 have ZQ:Below r9.heap.size r9 az1:=Bt CP aA
 clear CP
 clear aF5
 refine (T6.out _ (Bt O8 ZQ)).mono ?_
 rintro e aL8 ⟨rfl,ab2⟩
 refine hJ _ _ ab2 ?_
 clear hJ J
 have Pj:=Bt ZQ ab2
 clear ZQ ab2
 clear mo mg dY dW rX rW zS zJ
 have zS:=(X5.out.later Pj).cell;have zJ:=(X5.out.later Pj).lt
 have dY:=(X2.out.later Pj).cell;have dW:=(X2.out.later Pj).lt
 repeat (first|(refine ah rfl rfl fun J h=>?_;go_simp;refine h _ ?_;clear h J)|(refine aB rfl rfl rfl rfl fun J h=>?_;go_simp;refine h _ ?_;clear h J;try go_simp)|(refine gZ rfl rfl fun J h=>?_;go_simp;refine h _ ?_;clear h J)|(refine ig rfl rfl rfl rfl fun J h=>?_;go_simp;refine h _ ?_;clear h J;try go_simp))
 refine j4 rfl rfl (fun az0 aF3 J hJ=>?_);go_simp
 have ZP:Below r9.heap.size r9 az0:=Bt Pj aA
 clear Pj
 clear aF3
 refine (T7.out _ (Bt O8 ZP)).mono ?_
 rintro e aL7 ⟨rfl,ab1⟩
 refine hJ _ _ ab1 ?_
 clear hJ J
 have Ph:=Bt ZP ab1
 clear ZP ab1
 clear zS zJ dY dW
 have zS:=(X5.out.later Ph).cell;have zJ:=(X5.out.later Ph).lt
 have dY:=(X2.out.later Ph).cell;have dW:=(X2.out.later Ph).lt
 repeat (first|(refine ah rfl rfl fun J h=>?_;go_simp;refine h _ ?_;clear h J)|(refine aB rfl rfl rfl rfl fun J h=>?_;go_simp;refine h _ ?_;clear h J;try go_simp)|(refine gZ rfl rfl fun J h=>?_;go_simp;refine h _ ?_;clear h J)|(refine ig rfl rfl rfl rfl fun J h=>?_;go_simp;refine h _ ?_;clear h J;try go_simp))
 refine j4 rfl rfl (fun ay9 aF2 J hJ=>?_);go_simp
 have ZO:Below r9.heap.size r9 ay9:=Bt Ph aA
 clear Ph
 clear aF2
 refine (Fe _ _ ⟨⟨g1,g2⟩,⟨g3,g4⟩,⟨g5,g6⟩⟩ _ (zD.out.later ZO) FM.out.1 FM.out.2 _ (Below.refl _ _)).mono ?_
 rintro e aL6 ⟨rfl,ab0⟩
 refine hJ _ _ ab0 ?_
 clear hJ J
 have Pg:=Bt ZO ab0
 clear ZO ab0
 clear zS zJ dY dW
 have zS:=(X5.out.later Pg).cell;have zJ:=(X5.out.later Pg).lt
 have dY:=(X2.out.later Pg).cell;have dW:=(X2.out.later Pg).lt
 repeat (first|(refine ah rfl rfl fun J h=>?_;go_simp;refine h _ ?_;clear h J)|(refine aB rfl rfl rfl rfl fun J h=>?_;go_simp;refine h _ ?_;clear h J;try go_simp)|(refine gZ rfl rfl fun J h=>?_;go_simp;refine h _ ?_;clear h J)|(refine ig rfl rfl rfl rfl fun J h=>?_;go_simp;refine h _ ?_;clear h J;try go_simp))
 refine aI [_] rfl (fun ay8 aE2=>?_)
 have FU:Below r9.heap.size r9 ay8:=Bt Pg aA
 clear aE2 Pg
 clear zS zJ dY dW
 replace X2:=zh (X2.out.later FU)
 replace pV:=zh (pV.out.later FU)
 replace rJ:=zh (rJ.out.later FU)
 replace X3:=zh (X3.out.later FU)
 replace X4:=zh (X4.out.later FU)
 replace zD:=zh (zD.out.later FU)
 replace X5:=zh (X5.out.later FU)
 have aD8:=Bt O8 FU
 clear O8
 clear FU
 go_wp2_with fail
 go_ret
 exact ⟨rfl,aD8⟩
theorem bQ.slice {w:World} {v:Value} {m:List (List Fr)} (h:bQ w v m):∃ pa l ca,v= .slice pa l ca:=by
 obtain ⟨rs,⟨a,c,e, -⟩, -⟩:=h
 exact ⟨_,_,_,e⟩
end Go.Proofs.verdigrislaw25
namespace Go.Proofs.aL
open Go Go.RowKit Go.SW Go.Num Go.Mem Go.Proofs Go.Dec Go.dx
theorem Va {n d:Int} (h0:0≤n) (h1:n≤d) (hd:0<d) (h2:d≤1000):∃ q:Rat,(yR n d).1=Fr.of q∧0≤q∧q≤1∧adapt.Ht 10 q:=by
 have ht:(1000:Nat)≤gT 10:=by decide
 have hq:adapt.Ht 10 ((n:Rat) / (d:Rat)):=⟨n,d,hd,by omega,by omega,rfl⟩
 have hd':(0:Rat)<(d:Rat):=Rat.intCast_pos.2 hd
 have hn':(0:Rat)≤(n:Rat):=Rat.intCast_nonneg.2 h0
 have hnd:(n:Rat)≤(d:Rat):=Rat.intCast_le_intCast.2 h1
 refine ⟨(n:Rat) / (d:Rat),?_,?_,?_,hq⟩
 ·unfold yR wr
  rw [if_neg zo,if_pos (hq.ok zo)]
 ·rw [Rat.div_def]
  exact Rat.mul_nonneg hn' (Rat.le_of_lt (Rat.inv_pos.2 hd'))
 ·rw [Rat.div_def]
  have h:=Rat.mul_le_mul_of_nonneg_right hnd (Rat.le_of_lt (Rat.inv_pos.2 hd'))
  rwa [Rat.mul_inv_cancel _ (fun e=>by rw [e] at hd';exact absurd hd' zd)] at h
theorem TS (a b:Int) (ha: -32768≤a∧a≤32767) (hb:0≤b∧b≤255):∃ q:Rat,0≤q∧q≤1∧adapt.Ht 10 q∧∀ w:World,
  Calls Tryz.prog 14 #[.agg #[.int .i16 a,.int .u8 b]] w (fun e w'=>e= .returned (Fr.of q).v∧Below w.heap.size w w'):=by
 have W0:∀ z:Int, -32768≤z∧z≤65535→IntKind.i64.wrap z=z:=fun z h=>by unfold IntKind.wrap;simp [IntKind.bits,IntKind.signed];split<;>omega
 have hz:1+b+1≠0:=by omega
 have e1:=Int.tmod_lt_of_pos a (show 0<1+b+1 by omega)
 have e2:=Int.lt_tmod_of_pos a (show 0<1+b+1 by omega)
 obtain ⟨t,Et⟩:∃ t,a.tmod (1+b+1)=t:=⟨_,rfl⟩
 rw [Et] at e1 e2
 have wa:=W0 a zo
 have wb:=W0 b zo
 have wb1:=W0 (1+b) zo
 have wb2:=W0 (1+b+1) zo
 have wt:=W0 t zo
 have wn:=W0 (-t) zo
 obtain ⟨q,eq,q0,q1,qh⟩:=Va (n:=if t<0 then -t else t) (d:=1+b) (by split<;>omega) (by split<;>omega) zo zo
 refine ⟨q,q0,q1,qh,fun w=>?_⟩
 have H1:=zh (fun W=>tO (if t<0 then -t else t) (1+b) (by split<;>omega) (by split<;>omega) zo zo W)
 rw [eq] at H1
 obtain ⟨⟨s1,s2⟩,E⟩:∃ y,Fr.of q=y:=⟨_,rfl⟩
 rw [E] at H1 ⊢
 unfold Fr.v at H1
 clear E eq q0 q1 qh W0 ha hb e1 e2
 by_cases ht:t<0
 ·rw [if_pos ht] at H1
  go_enter Tryz.func14,Tryz.ntmps14
  go_wp2_with fail
  have hz:Below w.heap.size w ((w.alloc (.cells #[.int .i16 a,.int .u8 b] 31)).alloc (.cells #[.string ⟨#[]⟩,.string ⟨#[]⟩] 36)):=aA
  obtain ⟨aO,EW⟩:∃ y,((w.alloc (.cells #[.int .i16 a,.int .u8 b] 31)).alloc (.cells #[.string ⟨#[]⟩,.string ⟨#[]⟩] 36))=y:=⟨_,rfl⟩
  have X2:Hid (au aO (w.heap.size+1) #[.string ⟨#[]⟩,.string ⟨#[]⟩] 36):=zh (by rw [← EW];exact au.fZ _ _ _ _)
  rw [EW] at hz ⊢
  have hk2:=Bt (Below.refl _ _) hz
  clear EW hz
  refine (H1.out _).mono ?_
  rintro e fM ⟨rfl,hb3⟩
  replace X2:=zh (X2.out.later hb3)
  have hk5:=Bt hk2 hb3
  clear hk2
  clear hb3
  have dY:=X2.out.cell;have dW:=X2.out.lt;have gN:=X2.out.free
  have hres:=X2.out
  have iU:=hres.cell
  have iT:=hres.free
  go_wp2_with fail
  refine bO rfl rfl aJ Tryz.underlying36 rfl zk ?_
  exact ⟨rfl,aA⟩
 ·rw [if_neg ht] at H1
  go_enter Tryz.func14,Tryz.ntmps14
  go_wp2_with fail
  have hz:Below w.heap.size w ((w.alloc (.cells #[.int .i16 a,.int .u8 b] 31)).alloc (.cells #[.string ⟨#[]⟩,.string ⟨#[]⟩] 36)):=aA
  obtain ⟨aO,EW⟩:∃ y,((w.alloc (.cells #[.int .i16 a,.int .u8 b] 31)).alloc (.cells #[.string ⟨#[]⟩,.string ⟨#[]⟩] 36))=y:=⟨_,rfl⟩
  have X2:Hid (au aO (w.heap.size+1) #[.string ⟨#[]⟩,.string ⟨#[]⟩] 36):=zh (by rw [← EW];exact au.fZ _ _ _ _)
  rw [EW] at hz ⊢
  have hk2:=Bt (Below.refl _ _) hz
  clear EW hz
  refine (H1.out _).mono ?_
  rintro e fM ⟨rfl,hb3⟩
  replace X2:=zh (X2.out.later hb3)
  have hk5:=Bt hk2 hb3
  clear hk2
  clear hb3
  have dY:=X2.out.cell;have dW:=X2.out.lt;have gN:=X2.out.free
  have hres:=X2.out
  have iU:=hres.cell
  have iT:=hres.free
  go_wp2_with fail
  refine bO rfl rfl aJ Tryz.underlying36 rfl zk ?_
  exact ⟨rfl,aA⟩
end Go.Proofs.aL
namespace Go.Proofs.verdigrislaw25
open Go Go.RowKit Go.SW Go.Num Go.Mem Go.Proofs Go.Dec Go.dx
end Go.Proofs.verdigrislaw25
namespace Go.Proofs.verdigrislaw25
open Go Go.RowKit Go.SW Go.Num Go.Mem Go.Proofs Go.Dec Go.dx Go.Proofs.aZ
def Mt (w:World) (er:Int) (m:List (List Fr)) (e:Ending) (w':World):Prop :=
 Below w.heap.size w w'∧∃ pa l ca,e= .returned (.tuple #[.slice pa l ca,.int .i64 er])∧bQ w' (.slice pa l ca) m
theorem aQ.mt {w w':World} {er:Int} {m:List (List Fr)} {e:Ending} (h:aQ w er m e w'):Mt w er (if er=0 then m else []) e w':=by
 obtain ⟨hb,v,rfl,h1,h2⟩:=h
 by_cases he:er=0
 ·subst he
  rw [if_pos rfl]
  obtain ⟨pa,l,ca,rfl⟩:=jE (h1 rfl)
  exact ⟨hb,_,_,_,rfl,h1 rfl⟩
 ·rw [if_neg he,h2 he]
  exact ⟨hb,_,_,_,rfl,⟨[],Row.nil _ _,rfl,fun i h=>by cases h⟩⟩
theorem Vf (k:Int) (u v:light.aW) (tu:Gg u) (tv:Gg v) (q:Rat) (q0:0≤q) (q1:q≤1) (hq:adapt.Ht 10 q) (w:World) (ht:pE.Pow w) (hc:adapt.kr w) :
  ∃ (er:Int) (R:List (List Fr)),(∀ W,Below w.heap.size w W→Calls Tryz.prog 13 #[.int .i64 k,u.v,v.v,(Fr.of q).v] W (Mt W er R)) ∧
   (∀ W,Calls Tryz.prog 15 #[.int .i64 k,u.v,v.v,(Fr.of q).v] W (Mt W er R)) :=
 ⟨_,_,fun W hW=>(adapt.D7 k u v (Fr.of q) W (ht.later hW) (hc.later hW)).mono fun _ _ h=>aQ.mt h,fun W=>(PZ k u v tu tv q q0 q1 hq W).mono fun _ _ h=>aQ.mt h⟩
def Pair (w:World) (u v q:Value):Prop:=∀ k:Int,∃ (er:Int) (R:List (List Fr)),Hid (∀ W,Below w.heap.size w W→Calls Tryz.prog 13 #[.int .i64 k,u,v,q] W (Mt W er R)) ∧
   Hid (∀ W,Calls Tryz.prog 15 #[.int .i64 k,u,v,q] W (Mt W er R))
theorem zmI {G:Prop} (h:G:=by
 obtain ⟨er,R,A1,A2⟩:=PJ
 go_wp2_with fail
 first
  | (have hbv:Below wr.heap.size wr (wr.alloc (.cells #[.string x1,.string x2,.string x3,.string x4,.string x5,.string x6,.string y1,.string y2,.string y3,.string y4,.string y5,.string y6] 40)):=aA;have XV:=zh (au.new wr #[.string x1,.string x2,.string x3,.string x4,.string x5,.string x6,.string y1,.string y2,.string y3,.string y4,.string y5,.string y6] 40);obtain ⟨wv,EW⟩:∃ y,wr.alloc (.cells #[.string x1,.string x2,.string x3,.string x4,.string x5,.string x6,.string y1,.string y2,.string y3,.string y4,.string y5,.string y6] 40)=y:=⟨_,rfl⟩;rw [EW] at hbv XV ⊢)
  | (have hbv:Below wr.heap.size wr (wr.alloc (.cells #[.string z1,.string z2,.string z3,.string z4,.string z5,.string z6,.string y1,.string y2,.string y3,.string y4,.string y5,.string y6] 40)):=aA;have XV:=zh (au.new wr #[.string z1,.string z2,.string z3,.string z4,.string z5,.string z6,.string y1,.string y2,.string y3,.string y4,.string y5,.string y6] 40);obtain ⟨wv,EW⟩:∃ y,wr.alloc (.cells #[.string z1,.string z2,.string z3,.string z4,.string z5,.string z6,.string y1,.string y2,.string y3,.string y4,.string y5,.string y6] 40)=y:=⟨_,rfl⟩;rw [EW] at hbv XV ⊢)
  | (have hbv:Below wr.heap.size wr (wr.alloc (.cells #[.string x1,.string x2,.string x3,.string x4,.string x5,.string x6,.string t1,.string t2,.string t3,.string t4,.string t5,.string t6] 40)):=aA;have XV:=zh (au.new wr #[.string x1,.string x2,.string x3,.string x4,.string x5,.string x6,.string t1,.string t2,.string t3,.string t4,.string t5,.string t6] 40);obtain ⟨wv,EW⟩:∃ y,wr.alloc (.cells #[.string x1,.string x2,.string x3,.string x4,.string x5,.string x6,.string t1,.string t2,.string t3,.string t4,.string t5,.string t6] 40)=y:=⟨_,rfl⟩;rw [EW] at hbv XV ⊢)
 have HV:=zh (Bt hb hbv)
 have XS:=zh (HY4.out.later HV.out)
 obtain ⟨bv,eb⟩:∃ y,wr.heap.size=y:=⟨_,rfl⟩
 rw [eb] at XV ⊢
 clear EW rX rW hjx hbv hx4 hb eb
 have rX:=XS.out.cell;have rW:=XS.out.lt
 have cXV:=XV.out.cell;have lXV:=XV.out.lt
 refine aC [(.pure,0),(.pure,1),(.read,2),(.pure,3),(.read,4),(.read,5),(.ext,6),(.ext,7),(.pure,8),(.pure,9),(.pure,10),(.fin,11),(.fin,12)] zk zk zR zP ?_
 repeat (first|(refine ah rfl rfl fun J h=>?_;go_simp;refine h _ ?_;clear h J)|(refine aB rfl rfl rfl rfl fun J h=>?_;go_simp;refine h _ ?_;clear h J;try go_simp))
 refine aD rfl rfl (fun wa hba J hJ=>?_);go_simp
 have g1:Below wv.heap.size wv wa:=aA
 refine (SH.out _ (Bt HKi.out (Bt HV.out g1))).mono ?_
 rintro e wb ⟨rfl,hbb⟩
 refine hJ _ _ hbb ?_
 clear hJ J
 have g2:=Bt g1 hbb
 clear g1 hba hbb
 repeat (first|(refine ah rfl rfl fun J h=>?_;go_simp;refine h _ ?_;clear h J)|(refine aB rfl rfl rfl rfl fun J h=>?_;go_simp;refine h _ ?_;clear h J;try go_simp))
 refine aD rfl rfl (fun wc hbc J hJ=>?_);go_simp
 have g3:Below wv.heap.size wv wc:=Bt g2 aA
 refine (A1.out _ (Bt HKi.out (Bt HV.out g3))).mono ?_
 rintro e wd ⟨hbd,pa0,la0,Yf,rfl,hm⟩
 refine hJ _ _ hbd ?_
 clear hJ J
 have g4:=Bt g3 hbd
 have UJ:=zh hm
 clear hm g2 g3 hbc hbd
 repeat (first|(refine ah rfl rfl fun J h=>?_;go_simp;refine h _ ?_;clear h J)|(refine aB rfl rfl rfl rfl fun J h=>?_;go_simp;refine h _ ?_;clear h J;try go_simp))
 refine aI [_,_] rfl (fun we0 hbe=>?_)
 replace UJ:=zh (UJ.out.later (show Below wd.heap.size wd we0 from aA))
 have g5:Below wv.heap.size wv we0:=Bt g4 aA
 clear g4 hbe rX rW cXV lXV
 have xs:=XS.out.later g5
 have xv:=XV.out.later g5
 have rX:=xs.cell;have rW:=xs.lt
 have cXV:=xv.cell;have lXV:=xv.lt
 go_wp2_with fail
 refine aC [(.pure,0),(.pure,1),(.read,2),(.pure,3),(.read,4),(.read,5),(.ext,6),(.ext,7),(.pure,8),(.pure,9),(.pure,10),(.fin,11),(.fin,12)] zk zk zR zP ?_
 repeat (first|(refine ah rfl rfl fun J h=>?_;go_simp;refine h _ ?_;clear h J)|(refine aB rfl rfl rfl rfl fun J h=>?_;go_simp;refine h _ ?_;clear h J;try go_simp))
 refine aD rfl rfl (fun wa hba J hJ=>?_);go_simp
 have ga:Below we0.heap.size we0 wa:=aA
 have g1:Below wv.heap.size wv wa:=Bt g5 ga
 refine (SH.out _ (Bt HKi.out (Bt HV.out g1))).mono ?_
 rintro e wb ⟨rfl,hbb⟩
 refine hJ _ _ hbb ?_
 clear hJ J
 have g2:=Bt g1 hbb
 replace UJ:=zh (UJ.out.later (Bt ga hbb))
 clear g1 hba hbb ga
 repeat (first|(refine ah rfl rfl fun J h=>?_;go_simp;refine h _ ?_;clear h J)|(refine aB rfl rfl rfl rfl fun J h=>?_;go_simp;refine h _ ?_;clear h J;try go_simp))
 refine aD rfl rfl (fun wc hbc J hJ=>?_);go_simp
 have g3:Below wv.heap.size wv wc:=Bt g2 aA
 refine (A2.out _).mono ?_
 rintro e wd ⟨hbd,Xv,la1,Ye,rfl,hm⟩
 refine hJ _ _ hbd ?_
 clear hJ J
 have g4:=Bt g3 hbd
 have NM1:=zh hm
 replace UJ:=zh (UJ.out.later (Bt (show Below wb.heap.size wb wc from aA) hbd))
 clear hm g2 g3 hbc hbd
 repeat (first|(refine ah rfl rfl fun J h=>?_;go_simp;refine h _ ?_;clear h J)|(refine aB rfl rfl rfl rfl fun J h=>?_;go_simp;refine h _ ?_;clear h J;try go_simp))
 refine aI [_,_] rfl (fun we1 hbe=>?_)
 replace UJ:=zh (UJ.out.later (show Below wd.heap.size wd we1 from aA))
 replace NM1:=zh (NM1.out.later (show Below wd.heap.size wd we1 from aA))
 replace g5:Below wv.heap.size wv we1:=Bt g4 aA
 clear g4 hbe rX rW cXV lXV
 go_wp2_with fail
 refine (aK.Nv _ _ _ _ UJ.out NM1.out).mono ?_
 rintro e wz ⟨rfl,hbz⟩
 have hz:=Bt HV.out (Bt g5 hbz)
 clear UJ NM1 hbz g5 XS XV xs xv
 go_wp2_with fail
 go_roundw
 case rel=>exact (by first|exact ⟨0+1,by go_num,by omega,hz⟩|exact ⟨1+1,by go_num,by omega,hz⟩|exact ⟨2+1,by go_num,by omega,hz⟩)
 case measure=>simp [intOf]):G:=h
theorem zmO {G:Prop} (h:G:=by
 have eP:=HX1.out.cell;have eO:=HX1.out.lt
 have dY:=Ua.out.cell;have dW:=Ua.out.lt
 have mo:=LU.out.cell;have mg:=LU.out.lt
 have rX:=WM.out.cell;have rW:=WM.out.lt
 have HBr:=zh hb
 clear hb
 go_wp2_with fail
 refine aC [(.read,0),(.read,2),(.read,5),(.read,6),(.read,9),(.read,12),(.read,14),(.pure,18),(.ext,1),(.ext,3),(.pure,4),(.ext,7),(.ext,8),(.ext,10),(.pure,11),(.ext,13),(.ext,15),(.pure,16),(.pure,17)] zk zk zR zP ?_
 repeat (first|(refine ah rfl rfl fun J h=>?_;go_simp;refine h _ ?_;clear h J)|(refine aB rfl rfl rfl rfl fun J h=>?_;go_simp;refine h _ ?_;clear h J;try go_simp))
 refine aD rfl rfl (fun aB0 av1 J hJ=>?_);go_simp
 have fE:Below wr.heap.size wr aB0:=aA
 refine (WX.out _ (Bt Yn.out fE)).mono ?_
 rintro e dO ⟨rfl,SC⟩
 refine hJ _ _ SC ?_
 clear hJ J
 have ar0:=Bt fE SC
 clear fE av1 SC
 repeat (first|(refine ah rfl rfl fun J h=>?_;go_simp;refine h _ ?_;clear h J)|(refine aB rfl rfl rfl rfl fun J h=>?_;go_simp;refine h _ ?_;clear h J;try go_simp))
 refine aD rfl rfl (fun aA9 av0 J hJ=>?_);go_simp
 have aa3:Below wr.heap.size wr aA9:=Bt ar0 aA
 refine (WY.out _ (Bt Yn.out aa3)).mono ?_
 rintro e aN6 ⟨rfl,Sz⟩
 refine hJ _ _ Sz ?_
 clear hJ J
 have aq9:=Bt aa3 Sz
 clear aa3 av0 Sz ar0
 repeat (first|(refine ah rfl rfl fun J h=>?_;go_simp;refine h _ ?_;clear h J)|(refine aB rfl rfl rfl rfl fun J h=>?_;go_simp;refine h _ ?_;clear h J;try go_simp))
 refine aD rfl rfl (fun qb au9 J hJ=>?_);go_simp
 have hh12:Below wr.heap.size wr qb:=Bt aq9 aA
 refine (WX.out _ (Bt Yn.out hh12)).mono ?_
 rintro e vg ⟨rfl,Sy⟩
 refine hJ _ _ Sy ?_
 clear hJ J
 have aq8:=Bt hh12 Sy
 clear hh12 au9 Sy aq9
 repeat (first|(refine ah rfl rfl fun J h=>?_;go_simp;refine h _ ?_;clear h J)|(refine aB rfl rfl rfl rfl fun J h=>?_;go_simp;refine h _ ?_;clear h J;try go_simp))
 refine aD rfl rfl (fun aA8 au8 J hJ=>?_);go_simp
 have lN:Below wr.heap.size wr aA8:=Bt aq8 aA
 refine (WZ.out _ (Bt Yn.out lN)).mono ?_
 rintro e gY ⟨rfl,Sw⟩
 refine hJ _ _ Sw ?_
 clear hJ J
 have aq7:=Bt lN Sw
 clear lN au8 Sw aq8
 repeat (first|(refine ah rfl rfl fun J h=>?_;go_simp;refine h _ ?_;clear h J)|(refine aB rfl rfl rfl rfl fun J h=>?_;go_simp;refine h _ ?_;clear h J;try go_simp))
 refine aD rfl rfl (fun aA7 au7 J hJ=>?_);go_simp
 have Pn:Below wr.heap.size wr aA7:=Bt aq7 aA
 refine (WY.out _ (Bt Yn.out Pn)).mono ?_
 rintro e aN5 ⟨rfl,Sv⟩
 refine hJ _ _ Sv ?_
 clear hJ J
 have aq6:=Bt Pn Sv
 clear Pn au7 Sv aq7
 repeat (first|(refine ah rfl rfl fun J h=>?_;go_simp;refine h _ ?_;clear h J)|(refine aB rfl rfl rfl rfl fun J h=>?_;go_simp;refine h _ ?_;clear h J;try go_simp))
 refine aD rfl rfl (fun sj au6 J hJ=>?_);go_simp
 have vM:Below wr.heap.size wr sj:=Bt aq6 aA
 refine (WX.out _ (Bt Yn.out vM)).mono ?_
 rintro e aN4 ⟨rfl,Sr⟩
 refine hJ _ _ Sr ?_
 clear hJ J
 have aq5:=Bt vM Sr
 clear vM au6 Sr aq6
 repeat (first|(refine ah rfl rfl fun J h=>?_;go_simp;refine h _ ?_;clear h J)|(refine aB rfl rfl rfl rfl fun J h=>?_;go_simp;refine h _ ?_;clear h J;try go_simp))
 refine aD rfl rfl (fun Qv au5 J hJ=>?_);go_simp
 have nH:Below wr.heap.size wr Qv:=Bt aq5 aA
 refine (WT.out _ (Bt Yn.out nH)).mono ?_
 rintro e kV ⟨rfl,Sq⟩
 refine hJ _ _ Sq ?_
 clear hJ J
 have aq4:=Bt nH Sq
 clear nH au5 Sq aq5
 repeat (first|(refine ah rfl rfl fun J h=>?_;go_simp;refine h _ ?_;clear h J)|(refine aB rfl rfl rfl rfl fun J h=>?_;go_simp;refine h _ ?_;clear h J;try go_simp))
 refine walk_nil fun wf hbf=>?_
 have hr:Below wl.heap.size wl wf:=Bt HBr.out (Bt aq4 aA)
 clear eP dY mo rX eO dW mg rW hix hbf aq4
 obtain ⟨wi,Ewi⟩:∃ y,y=wf:=⟨_,rfl⟩
 subst Ewi
 have HY4:=zh (X4.out.later hr)
 have HKi:=zh (Bt HK.out hr)
 have JD:=zh hr
 clear hr
 go_wp2_with fail
 go_loopw [50] (fun iv wr=>∃ k:Nat,iv= .int .i64 (k:Int)∧k≤3∧Below wi.heap.size wi wr) (fun iv _=>3 - (intOf iv).toNat)
 case atStart=>exact ⟨0,rfl,by omega,Below.refl _ _⟩
 case round =>
  obtain ⟨k,rfl,hk,hb⟩:=hrel
  rcases Nat.lt_or_ge k 3 with hlt|hge
  ·rcases (by omega:k=0∨k=1∨k=2) with rfl|rfl|rfl
   ·have hjx:∀ W:World,(Instr.index 42 (.agg #[.string x1,.string x2,.string x3,.string x4,.string x5,.string x6,.string y1,.string y2,.string y3,.string y4,.string y5,.string y6,.string z1,.string z2,.string z3,.string z4,.string z5,.string z6,.string y1,.string y2,.string y3,.string y4,.string y5,.string y6,.string x1,.string x2,.string x3,.string x4,.string x5,.string x6,.string t1,.string t2,.string t3,.string t4,.string t5,.string t6]) (.int .i64 0)).run Tryz.prog W= .ok (.agg #[.string x1,.string x2,.string x3,.string x4,.string x5,.string x6,.string y1,.string y2,.string y3,.string y4,.string y5,.string y6]) W:=fun W=>by kernel_rfl
    have hx4:=HY4.out.later hb
    have rX:=hx4.cell;have rW:=hx4.lt
    have PJ:=PK0.out
    clear PK0 PK1 PK2
    exact zmI
   ·have hjx:∀ W:World,(Instr.index 42 (.agg #[.string x1,.string x2,.string x3,.string x4,.string x5,.string x6,.string y1,.string y2,.string y3,.string y4,.string y5,.string y6,.string z1,.string z2,.string z3,.string z4,.string z5,.string z6,.string y1,.string y2,.string y3,.string y4,.string y5,.string y6,.string x1,.string x2,.string x3,.string x4,.string x5,.string x6,.string t1,.string t2,.string t3,.string t4,.string t5,.string t6]) (.int .i64 1)).run Tryz.prog W= .ok (.agg #[.string z1,.string z2,.string z3,.string z4,.string z5,.string z6,.string y1,.string y2,.string y3,.string y4,.string y5,.string y6]) W:=fun W=>by kernel_rfl
    have hx4:=HY4.out.later hb
    have rX:=hx4.cell;have rW:=hx4.lt
    have PJ:=PK1.out
    clear PK0 PK1 PK2
    exact zmI
   ·have hjx:∀ W:World,(Instr.index 42 (.agg #[.string x1,.string x2,.string x3,.string x4,.string x5,.string x6,.string y1,.string y2,.string y3,.string y4,.string y5,.string y6,.string z1,.string z2,.string z3,.string z4,.string z5,.string z6,.string y1,.string y2,.string y3,.string y4,.string y5,.string y6,.string x1,.string x2,.string x3,.string x4,.string x5,.string x6,.string t1,.string t2,.string t3,.string t4,.string t5,.string t6]) (.int .i64 2)).run Tryz.prog W= .ok (.agg #[.string x1,.string x2,.string x3,.string x4,.string x5,.string x6,.string t1,.string t2,.string t3,.string t4,.string t5,.string t6]) W:=fun W=>by kernel_rfl
    have hx4:=HY4.out.later hb
    have rX:=hx4.cell;have rW:=hx4.lt
    have PJ:=PK2.out
    clear PK0 PK1 PK2
    exact zmI
  ·have hk3:k=3:=by omega
   subst hk3
   have hz:=Bt JD.out hb
   go_wp2_with fail
   go_roundw
   case rel=>exact (by first|exact ⟨0+1,by go_num,by omega,hz⟩|exact ⟨1+1,by go_num,by omega,hz⟩)
   case measure=>simp [intOf]):G:=h
theorem vX (kind n a0 a1 a2 c0 c1 c2 bk e0 e1:Int) (hn:0≤n∧n≤255) (s t x1 x2 x3 x4 x5 x6 y1 y2 y3 y4 y5 y6 z1 z2 z3 z4 z5 z6 t1 t2 t3 t4 t5 t6 q1 q2:ByteArray) (w:World)
  (W1:Hid (LD w 9 #[] (.bool true)))
  (WX:Hid (LD w 10 #[.agg #[.int .u16 a0,.int .u16 a1,.int .u16 a2]] (.agg #[.string x1,.string x2,.string x3,.string x4,.string x5,.string x6])))
  (WY:Hid (LD w 10 #[.agg #[.int .u16 c0,.int .u16 c1,.int .u16 c2]] (.agg #[.string y1,.string y2,.string y3,.string y4,.string y5,.string y6])))
  (WZ:Hid (LD w 11 #[.agg #[.int .u8 bk,.string s,.string t],.agg #[.string x1,.string x2,.string x3,.string x4,.string x5,.string x6]] (.agg #[.string z1,.string z2,.string z3,.string z4,.string z5,.string z6])))
  (WT:Hid (LD w 12 #[.agg #[.int .u16 c0,.int .u16 c1,.int .u16 c2]] (.agg #[.string t1,.string t2,.string t3,.string t4,.string t5,.string t6])))
  (SH:Hid (LD w 14 #[.agg #[.int .i16 e0,.int .u8 e1]] (.agg #[.string q1,.string q2])))
  (P0:Pair w (.agg #[.string x1,.string x2,.string x3,.string x4,.string x5,.string x6]) (.agg #[.string y1,.string y2,.string y3,.string y4,.string y5,.string y6]) (.agg #[.string q1,.string q2]))
  (P1:Pair w (.agg #[.string z1,.string z2,.string z3,.string z4,.string z5,.string z6]) (.agg #[.string y1,.string y2,.string y3,.string y4,.string y5,.string y6]) (.agg #[.string q1,.string q2]))
  (P2:Pair w (.agg #[.string x1,.string x2,.string x3,.string x4,.string x5,.string x6]) (.agg #[.string t1,.string t2,.string t3,.string t4,.string t5,.string t6]) (.agg #[.string q1,.string q2])) :
  Calls Tryz.prog 3 #[.int .i64 kind,.int .u8 n,.agg #[.int .u16 a0,.int .u16 a1,.int .u16 a2],.agg #[.int .u16 c0,.int .u16 c1,.int .u16 c2],.agg #[.int .u8 bk,.string s,.string t],.agg #[.int .i16 e0,.int .u8 e1]] w (fun e w'=>e= .returned (.bool true)∧Below w.heap.size w w'):=by
 have h1:n.tmod 3=n%3:=Int.tmod_eq_emod_of_nonneg hn.1
 have h2:IntKind.u8.wrap (n%3)=n%3:=by unfold IntKind.wrap;simp [IntKind.bits,IntKind.signed];omega
 have h3:IntKind.i64.wrap (n%3)=n%3:=by unfold IntKind.wrap;simp [IntKind.bits,IntKind.signed];omega
 have h4:IntKind.i64.wrap (1+n%3)=1+n%3:=by unfold IntKind.wrap;simp [IntKind.bits,IntKind.signed];omega
 replace P0:=zh P0
 replace P1:=zh P1
 replace P2:=zh P2
 clear hn
 go_enter Tryz.func3,Tryz.ntmps3
 go_wp2_with fail
 have hz:Below w.heap.size w ((((w.alloc (.cells #[.int .u16 a0,.int .u16 a1,.int .u16 a2] 24)).alloc (.cells #[.int .u16 c0,.int .u16 c1,.int .u16 c2] 24)).alloc (.cells #[.int .u8 bk,.string s,.string t] 28)).alloc (.cells #[.int .i16 e0,.int .u8 e1] 31)):=aA
 obtain ⟨aO,EW⟩:∃ y,((((w.alloc (.cells #[.int .u16 a0,.int .u16 a1,.int .u16 a2] 24)).alloc (.cells #[.int .u16 c0,.int .u16 c1,.int .u16 c2] 24)).alloc (.cells #[.int .u8 bk,.string s,.string t] 28)).alloc (.cells #[.int .i16 e0,.int .u8 e1] 31))=y:=⟨_,rfl⟩
 have X1:Hid (au aO (w.heap.size) #[.int .u16 a0,.int .u16 a1,.int .u16 a2] 24):=zh (by rw [← EW];exact au.alloc (au.alloc (au.alloc (au.new _ _ _) _) _) _)
 have X2:Hid (au aO (w.heap.size+1) #[.int .u16 c0,.int .u16 c1,.int .u16 c2] 24):=zh (by rw [← EW];exact au.alloc (au.alloc (au.fZ _ _ _ _) _) _)
 have X3:Hid (au aO (w.heap.size+1+1) #[.int .u8 bk,.string s,.string t] 28):=zh (by rw [← EW];exact au.alloc (au.at2 _ _ _ _ _) _)
 have X4:Hid (au aO (w.heap.size+1+1+1) #[.int .i16 e0,.int .u8 e1] 31):=zh (by rw [← EW];exact au.at3 _ _ _ _ _ _)
 rw [EW] at hz ⊢
 have hk2:=Bt (Below.refl _ _) hz
 clear EW hz
 refine (W1.out _ hk2).mono ?_
 rintro e fM ⟨rfl,hb3⟩
 replace X1:=zh (X1.out.later hb3)
 replace X2:=zh (X2.out.later hb3)
 replace X3:=zh (X3.out.later hb3)
 replace X4:=zh (X4.out.later hb3)
 have hk5:=Bt hk2 hb3
 clear hk2
 clear hb3
 have HK:=zh hk5
 obtain ⟨wl,Ewl⟩:∃ y,y=fM:=⟨_,rfl⟩
 subst Ewl
 go_wp2_with fail
 go_loopw [29] (fun iv wr=>∃ k:Nat,iv= .int .i64 (k:Int)∧k≤2∧Below wl.heap.size wl wr) (fun iv _=>2 - (intOf iv).toNat)
 case atStart=>exact ⟨0,rfl,by omega,Below.refl _ _⟩
 case round =>
  obtain ⟨k,rfl,hk,hb⟩:=hrel
  have HX1:=zh (X1.out.later hb)
  have Ua:=zh (X2.out.later hb)
  have LU:=zh (X3.out.later hb)
  have WM:=zh (X4.out.later hb)
  have Yn:=zh (Bt HK.out hb)
  rcases Nat.lt_or_ge k 2 with hlt|hge
  ·rcases (by omega:k=0∨k=1) with rfl|rfl
   ·have hix:∀ W:World,(Instr.index 33 (.agg #[.int .i64 kind,.int .i64 (1+n%3)]) (.int .i64 0)).run Tryz.prog W= .ok (.int .i64 kind) W:=fun W=>by kernel_rfl
    have PK0:=zh (P0.out kind)
    have PK1:=zh (P1.out kind)
    have PK2:=zh (P2.out kind)
    exact zmO
   ·have hix:∀ W:World,(Instr.index 33 (.agg #[.int .i64 kind,.int .i64 (1+n%3)]) (.int .i64 1)).run Tryz.prog W= .ok (.int .i64 (1+n%3)) W:=fun W=>by kernel_rfl
    have PK0:=zh (P0.out (1+n%3))
    have PK1:=zh (P1.out (1+n%3))
    have PK2:=zh (P2.out (1+n%3))
    exact zmO
  ·have hk2:k=2:=by omega
   subst hk2
   have hz:=Bt Yn.out (Below.refl _ _)
   have HX:=zh hz
   clear hz
   go_wp2_with fail
   go_ret
   exact ⟨rfl,HX.out⟩
end Go.Proofs.verdigrislaw25
namespace Go.Proofs.YtddblpggomphpaaGreatDoor
open Go Go.ChangeShapes Go.WideShapes Go.ChangeAt Go.RowKit Go.Proofs
theorem own:ownKnob Tryz.prog.godebug=none:=by kernel_rfl
theorem Tm (os:Os) (args:Array Value):laidMetH Tryz.prog Rows.adaptMatricesRow.laid ((World.doorLaid Tryz.prog 4000 os).forCall (fun _ _=>0) ⟨#[],args,[]⟩).memory:=by
 rw [MakeChecks.laidMetH_plain _ _ _ zk]
 exact laidMet_of_run' 8 zk zk
def ax1 (v:Value) (a b:Int):Prop:=v= .agg #[.int .i16 a,.int .u8 b]∧(-32768≤a∧a≤32767)∧(0≤b∧b≤255)
theorem Zr {n:Int} (h:(Lit.int .i16 n).wf=true): -32768≤n∧n≤32767:=by
 simp [Lit.wf,IntKind.min,IntKind.max,IntKind.signed,IntKind.bits] at h
 omega
theorem Ri {H:Type} {enc:TypeId × Value→H} {W:World} {b0 base:Nat} {sp:Nat→Bool} {held:Bool} {v:Value} {d:DataW H} {p:List MemPlace}
  (hval:Value.okWide Tryz.prog W .any b0 31 v) (h:DataW.Trod enc Tryz.prog W base sp held 31 v d p) :
  ∃ a b,ax1 v a b∧p=[]∧∀ (W':World) (base':Nat) (sp':Nat→Bool) (held':Bool),DataW.Trod enc Tryz.prog W' base' sp' held' 31 v d []:=by
 have u0:Tryz.prog.underlying 29=some (.int .i16):=Tryz.underlying29
 have u1:Tryz.prog.underlying 5=some (.int .u8):=Tryz.underlying5
 have ut:=Tryz.underlying31
 have c0:Tryz.prog.cellsOf 29=1:=by kernel_rfl
 have c1:Tryz.prog.cellsOf 5=1:=by kernel_rfl
 have ct:Tryz.prog.cellsOf 31=2:=by kernel_rfl
 obtain ⟨cs,rfl,hsz, -⟩:∃ cs,v= .agg cs∧cs.size=Tryz.prog.cellsOf 31∧Row.okWide Tryz.prog W .any b0 31 cs:=by
  simpa [Value.okWide,ut] using hval
 rw [ct] at hsz
 obtain ⟨l⟩:=cs
 obtain ⟨x0,x1,rfl⟩:∃ x0 x1,l=[x0,x1]:=by
  match l,hsz with
  | [x0,x1],_=>exact ⟨x0,x1,rfl⟩
 obtain ⟨fuel,hf⟩:=h
 obtain ⟨y0,y1,m,hx,hl,hy0,hy1⟩:=trod_struct2 ut hf
 simp only [c0,c1] at hy0 hy1
 obtain ⟨z0,e0,rfl,w0⟩:=DataW.trod_int u0 hy0
 obtain ⟨z1,e1,rfl,w1⟩:=DataW.trod_int u1 hy1
 replace e0:[x0]=[Value.int .i16 z0]:=e0
 replace e1:[x1]=[Value.int .u8 z1]:=e1
 simp only [List.cons.injEq,and_true] at e0 e1
 subst e0 e1
 simp only [Prod.mk.injEq] at hx
 obtain ⟨rfl,rfl⟩:=hx
 refine ⟨z0,z1,⟨rfl,Zr w0,Qx w1⟩,by simp,fun W' base' sp' held'=>⟨2,?_⟩⟩
 have:=trod_struct2_mk (enc:=enc) (w:=W') (base:=base') (spare:=sp') (held:=held') (n:=1) (cs:=[.int .i16 z0,.int .u8 z1]) (y0:=(.lit (.int .i16 z0),[])) (y1:=(.lit (.int .u8 z1),[])) ut (by simp [ct])
  (by simpa [c0] using trod_int_mk (enc:=enc) (w:=W') (base:=base') (spare:=sp') (held:=held') 0 u0 w0) (by simpa [c1] using trod_int_mk (enc:=enc) (w:=W') (base:=base') (spare:=sp') (held:=held') 0 u1 w1)
 simp at this
 exact this
def Yu (v:Value) (k:Int) (s t:ByteArray):Prop:=v= .agg #[.int .u8 k,.string s,.string t]∧(0≤k∧k≤255)
theorem OM {H:Type} {enc:TypeId × Value→H} {W:World} {b0 base:Nat} {sp:Nat→Bool} {held:Bool} {v:Value} {d:DataW H} {p:List MemPlace}
  (hval:Value.okWide Tryz.prog W .any b0 28 v) (h:DataW.Trod enc Tryz.prog W base sp held 28 v d p) :
  ∃ k s t,Yu v k s t∧p=[]∧∀ (W':World) (base':Nat) (sp':Nat→Bool) (held':Bool),DataW.Trod enc Tryz.prog W' base' sp' held' 28 v d []:=by
 have u1:Tryz.prog.underlying 5=some (.int .u8):=Tryz.underlying5
 have us:Tryz.prog.underlying 9=some .string:=Tryz.underlying9
 have uo:=Tryz.underlying26
 have ut:=Tryz.underlying28
 have c1:Tryz.prog.cellsOf 5=1:=by kernel_rfl
 have c2:Tryz.prog.cellsOf 9=1:=by kernel_rfl
 have co:Tryz.prog.cellsOf 26=2:=by kernel_rfl
 have ct:Tryz.prog.cellsOf 28=3:=by kernel_rfl
 obtain ⟨cs,rfl,hsz, -⟩:∃ cs,v= .agg cs∧cs.size=Tryz.prog.cellsOf 28∧Row.okWide Tryz.prog W .any b0 28 cs:=by
  simpa [Value.okWide,ut] using hval
 rw [ct] at hsz
 obtain ⟨l⟩:=cs
 obtain ⟨x0,x1,x2,rfl⟩:∃ x0 x1 x2,l=[x0,x1,x2]:=by
  match l,hsz with
  | [x0,x1,x2],_=>exact ⟨x0,x1,x2,rfl⟩
 obtain ⟨fuel,hf⟩:=h
 obtain ⟨y0,y1,m,hx,hl,hy0,hy1⟩:=trod_struct2 ut hf
 simp only [c1,co] at hy0 hy1
 obtain ⟨y2,y3,m2,hx2,hl2,hy2,hy3⟩:=trod_struct2 uo hy1
 simp only [c2] at hy2 hy3
 obtain ⟨z0,e0,rfl,w0⟩:=DataW.trod_int u1 hy0
 obtain ⟨z1,e1,rfl,w1⟩:=DataW.trod_string us hy2
 obtain ⟨z2,e2,rfl,w2⟩:=DataW.trod_string us hy3
 replace e0:[x0]=[Value.int .u8 z0]:=e0
 replace e1:[x1]=[Value.string z1]:=e1
 replace e2:[x2]=[Value.string z2]:=e2
 simp only [List.cons.injEq,and_true] at e0 e1 e2
 subst e0 e1 e2
 subst hx2
 simp only [Prod.mk.injEq] at hx
 obtain ⟨rfl,rfl⟩:=hx
 refine ⟨z0,z1,z2,⟨rfl,Qx w0⟩,by simp,fun W' base' sp' held'=>⟨3,?_⟩⟩
 have ho:=trod_struct2_mk (enc:=enc) (w:=W') (base:=base') (spare:=sp') (held:=held') (n:=1) (cs:=[.string z1,.string z2]) (y0:=(.lit (.string z1.data.toList),[])) (y1:=(.lit (.string z2.data.toList),[])) uo (by simp [co])
  (by simp [c2,DataW.trod,us,w1]) (by simp [c2,DataW.trod,us,w2])
 have:=trod_struct2_mk (enc:=enc) (w:=W') (base:=base') (spare:=sp') (held:=held') (n:=2) (cs:=[.int .u8 z0,.string z1,.string z2]) (y0:=(.lit (.int .u8 z0),[])) (y1:=(.agg [.lit (.string z1.data.toList),.lit (.string z2.data.toList)],[]++[])) ut (by simp [ct])
  (by simpa [c1] using trod_int_mk (enc:=enc) (w:=W') (base:=base') (spare:=sp') (held:=held') 1 u1 w0) (by simpa [co] using ho)
 simp at this
 exact this
theorem Vt {kind n a0 a1 a2 c0 c1 c2 e0 e1 k:Int} {s t:ByteArray} {va vc vb ve:Value} (hn:0≤n∧n≤255) (ca:Col va a0 a1 a2) (cc:Col vc c0 c1 c2) (cb:Yu vb k s t) (ce:ax1 ve e0 e1) (w:World) (ht:pE.Pow w) (hc:adapt.kr w) :
  Calls Tryz.prog 3 #[.int .i64 kind,.int .u8 n,va,vc,vb,ve] w (fun e w'=>e= .returned (.bool true)∧Below w.heap.size w w'):=by
 obtain ⟨rfl,ka,kb,kc⟩:=ca
 obtain ⟨rfl,la,lb,lc⟩:=cc
 obtain ⟨rfl,hk⟩:=cb
 obtain ⟨rfl,ma,mb⟩:=ce
 obtain ⟨q,q0,q1,hq,hsh⟩:=aL.TS e0 e1 ma mb
 have WX:=aL.Jw a0 a1 a2 ka kb kc
 have WY:=aL.Jw c0 c1 c2 la lb lc
 have WT:=aL.af5 c0 c1 c2 la lb lc
 have TX:=aZ.Al (a:=1+a0%2000) (b:=1+a1%2000) (c:=1+a2%2000) zo zo zo
 have TY:=aZ.Al (a:=1+c0%2000) (b:=1+c1%2000) (c:=1+c2%2000) zo zo zo
 have TT:=aZ.Al (a:=c0) (b:=c1) (c:=c2) la lb lc
 have TZ:=aZ.Oj (a:=1+a0%2000) (b:=1+a1%2000) (c:=1+a2%2000) k s t zo zo zo
 generalize verdigrislaw25.tq c0 c1 c2 1000=tt at *
 generalize verdigrislaw25.tq (1+c0%2000) (1+c1%2000) (1+c2%2000) 1000=ty at *
 generalize verdigrislaw25.tq (1+a0%2000) (1+a1%2000) (1+a2%2000) 1000=tx at *
 obtain ⟨⟨x1,x2⟩,⟨x3,x4⟩,⟨x5,x6⟩⟩:=tx
 have WZ:=aL.Xm k hk s t x1 x2 x3 x4 x5 x6
 generalize aL.TM k ⟨aL.mO s,aL.mO t⟩ ⟨⟨x1,x2⟩,⟨x3,x4⟩,⟨x5,x6⟩⟩=tz at *
 obtain ⟨⟨y1,y2⟩,⟨y3,y4⟩,⟨y5,y6⟩⟩:=ty
 obtain ⟨⟨z1,z2⟩,⟨z3,z4⟩,⟨z5,z6⟩⟩:=tz
 obtain ⟨⟨t1,t2⟩,⟨t3,t4⟩,⟨t5,t6⟩⟩:=tt
 have P:=fun (u v:light.aW) (tu:aZ.Gg u) (tv:aZ.Gg v) (k:Int)=>verdigrislaw25.Vf k u v tu tv q q0 q1 hq w ht hc
 exact verdigrislaw25.vX kind n a0 a1 a2 c0 c1 c2 k e0 e1 hn s t x1 x2 x3 x4 x5 x6 y1 y2 y3 y4 y5 y6 z1 z2 z3 z4 z5 z6 t1 t2 t3 t4 t5 t6 (dx.Fr.of q).n (dx.Fr.of q).d w
  (zh fun W hW=>verdigrislaw25.Qt W (ht.later hW) (hc.later hW)) (zh fun W _=>WX W) (zh fun W _=>WY W) (zh fun W _=>WZ W) (zh fun W _=>WT W) (zh fun W _=>hsh W)
  (fun k=>by obtain ⟨er,R,h1,h2⟩:=P _ _ TX TY k;exact ⟨er,R,zh h1,zh h2⟩)
  (fun k=>by obtain ⟨er,R,h1,h2⟩:=P _ _ TZ TY k;exact ⟨er,R,zh h1,zh h2⟩)
  (fun k=>by obtain ⟨er,R,h1,h2⟩:=P _ _ TX TT k;exact ⟨er,R,zh h1,zh h2⟩)
theorem aw9 {H:Type} {enc:TypeId × Value→H} {P:Program} {w:World} {base:Nat} {sp:Nat→Bool} {held:Bool} {t t1 t2 t3 t4 t5:TypeId} {args:Array Value} {ds:List (DataW H)} {ps:List MemPlace} (h:DataW.TrodAll enc P w base sp held [t,t1,t2,t3,t4,t5] args.toList ds ps) :
  ∃ v v1 v2 v3 v4 v5 d d1 d2 d3 d4 d5 p p1 p2 p3 p4 p5,args=#[v,v1,v2,v3,v4,v5]∧ds=[d,d1,d2,d3,d4,d5]∧ps=p++p1++p2++p3++p4++p5∧DataW.Trod enc P w base sp held t v d p∧DataW.Trod enc P w base sp held t1 v1 d1 p1∧DataW.Trod enc P w base sp held t2 v2 d2 p2∧DataW.Trod enc P w base sp held t3 v3 d3 p3∧DataW.Trod enc P w base sp held t4 v4 d4 p4∧DataW.Trod enc P w base sp held t5 v5 d5 p5:=by
 obtain ⟨v,vs,d,ds1,p,q,hargs,rfl,rfl,hd,hrest⟩:=trodAll_cons h
 obtain ⟨v1,vs1,d1,ds2,p1,q1,rfl,rfl,rfl,hd1,ZE⟩:=trodAll_cons hrest
 obtain ⟨v2,vs2,d2,ds3,p2,q2,rfl,rfl,rfl,hd2,ZC⟩:=trodAll_cons ZE
 obtain ⟨v3,vs3,d3,ds4,p3,q3,rfl,rfl,rfl,hd3,hrest3⟩:=trodAll_cons ZC
 obtain ⟨v4,vs4,d4,ds5,p4,q4,rfl,rfl,rfl,hd4,ZB⟩:=trodAll_cons hrest3
 obtain ⟨v5,vs5,d5,ds6,p5,q5,rfl,rfl,rfl,hd5,ZA⟩:=trodAll_cons ZB
 obtain ⟨rfl,rfl,rfl⟩:=trodAll_nil ZA
 exact ⟨v,v1,v2,v3,v4,v5,d,d1,d2,d3,d4,d5,p,p1,p2,p3,p4,p5,by cases args;simp_all,rfl,by simp,hd,hd1,hd2,hd3,hd4,hd5⟩
theorem tL (os:Os) (started:os.Started) (H:Type) (enc:TypeId × Value→H) :
  ReturnsInHanded {} Tryz.checked os 3 .any (fun w args=>(Rows.adaptMatricesSpec.pre enc Tryz.prog Tryz.f3 [] false w args∧laidMetH Tryz.prog Rows.adaptMatricesRow.laid w)∧sizedMet enc Tryz.prog Tryz.f3 (OpenSpec.ofChange Rows.adaptMatricesSpec) false w args)
   (Rows.adaptMatricesSpec.post enc Tryz.prog Tryz.f3 false true false false):=by
 refine returnsInHanded_of_change_and (C:=Tryz.checked) (X:=fun w _=>laidMetH Tryz.prog Rows.adaptMatricesRow.laid w) (fun _ _ _ hh h=>h.of_heap hh) own started zk Tryz.func3
  (ChangeSpec.witness_shaped (enc:=enc) (C:=Tryz.checked) (os:=os) (X:=fun w _=>laidMetH Tryz.prog Rows.adaptMatricesRow.laid w) false (World.doorLaid Tryz.prog 4000 os) #[.int .i64 0,.int .u8 0,.agg #[.int .u16 0,.int .u16 0,.int .u16 0],.agg #[.int .u16 0,.int .u16 0,.int .u16 0],.agg #[.int .u8 0,.string ⟨#[]⟩,.string ⟨#[]⟩],.agg #[.int .i16 0,.int .u8 0]] 8 rfl (World.shaped_of_RefB zk zk) zk zk zk (Tm os _)) ?_
 intro W base args ds gs before hval0 hW _ _ hL _
 have hW':=hW
 obtain ⟨p,q,hA0,hV,rfl,hfz,hnd⟩:=hW
 have hA:DataW.TrodAll enc Tryz.prog W 0 (fun _=>true) true Tryz.f3.params.toList args.toList ds p:=hA0
 rw [Tryz.params3] at hA
 have hval:∀ (j:Nat) t v,Tryz.f3.params[j]? =some t→args[j]? =some v→Value.okWide Tryz.prog W .any base t v:=hval0
 rw [Tryz.params3] at hval
 obtain ⟨v0,v1,v2,v3,v4,v5,d0,d1,d2,d3,d4,d5,p0,p1,p2,p3,p4,p5,rfl,rfl,rfl,h0,h1,h2,h3,h4,h5⟩:=aw9 hA
 obtain ⟨rfl,rfl⟩:=trodVars_none hV
 obtain ⟨kind,rfl,rfl,rfl,wk⟩:=open_int Tryz.underlying3 (hval 0 3 v0 rfl rfl) h0
 obtain ⟨n,rfl,rfl,rfl,wn⟩:=open_int Tryz.underlying5 (hval 1 5 v1 rfl rfl) h1
 obtain ⟨a0,a1,a2,ca,rfl,ra⟩:=yQ (hval 2 24 v2 rfl rfl) h2
 obtain ⟨b0,b1,b2,cb,rfl,rb⟩:=yQ (hval 3 24 v3 rfl rfl) h3
 obtain ⟨k,s,t,cc,rfl,rc⟩:=OM (hval 4 28 v4 rfl rfl) h4
 obtain ⟨e0,e1,ce,rfl,re⟩:=Ri (hval 5 31 v5 rfl rfl) h5
 obtain ⟨hp,hc⟩:=Vp hL
 refine (Vt (Qx wn) ca cb cc ce W hp hc).mono fun e W' ⟨he,hb⟩=>?_
 subst he
 refine ⟨_,rfl,_,_,_,[],[],[],hW',?_,?_,?_,hb.frame _,fun h=>by cases h⟩
 ·exact trodAll_mk1 (shut_bool Tryz.underlying4 true)
 ·exact ⟨_,_,shut_int Tryz.underlying3 wk,⟨_,_,shut_int Tryz.underlying5 wn,⟨_,_,ra _ _ _ _,trodAll_mk3 (rb _ _ _ _) (rc _ _ _ _) (re _ _ _ _),rfl⟩,rfl⟩,rfl⟩
 ·rfl
theorem uO:Rows.AdaptMatricesSaid :=
 OpenClaim.holds_of_wide 3 Tryz.f3 rfl rfl rfl rfl rfl rfl rfl ⟨rfl,rfl,rfl,rfl,rfl⟩ rfl rfl rfl rfl rfl zk Tryz.func3 zk
  (of_decide_eq_true zk) (by unfold Func.isWrapper;first|(rw [if_pos (by decide+kernel)];kernel_rfl)|(rw [if_neg (by decide+kernel)];exact ⟨rfl,rfl⟩))
  (fun os started H enc _=>tL os started H enc)
theorem YE:Tryz.prog.wantsStandIn 3=false:=by kernel_rfl
theorem YG:Tryz.prog.wantsStandIn 28=false:=by kernel_rfl
theorem YH:Tryz.prog.wantsStandIn 5=false:=by kernel_rfl
theorem YD:Tryz.prog.wantsStandIn 31=false:=by kernel_rfl
theorem YF:Tryz.prog.wantsStandIn 24=false:=by kernel_rfl
theorem adaptMatrices_card:Rows.AdaptMatricesCardSaid :=
 Claim7.holds_tied_plain_at .later [] [.data, .data, .data, .data] true (true, "50e1582605f5adda48684425b8549e6e38f1d8943c6eb8551d2394c5aed60ef4") true
  uO (fun _ h=>by cases h) zk (fun _ h=>by cases h) adaptMatrices_row_tie rfl ⟨rfl,rfl⟩ zk rfl
  (fun f fn hf hfn=>by
   obtain rfl : f = 3 := Option.some.inj ((show Tryz.prog.funcNamed "verdigris/verdigrislaw25.AdaptMatrices" = some 3 by kernel_rfl).symm.trans hf) |>.symm
   obtain rfl:fn=Tryz.f3:=(Option.some.inj (Tryz.func3.symm.trans hfn)).symm
   exact ⟨by kernel_rfl,fun j t ht=>by
    rw [Tryz.params3] at ht
    have ht':t=3∨t=5∨t=24∨t=28∨t=31:=by
     rcases j with _| _| _| _| _| _|j<;>simp at ht
     ·exact .inl ht.symm
     ·exact .inr (.inl ht.symm)
     ·exact .inr (.inr (.inl ht.symm))
     ·exact .inr (.inr (.inl ht.symm))
     ·exact .inr (.inr (.inr (.inl ht.symm)))
     ·exact .inr (.inr (.inr (.inr ht.symm)))
    rcases ht' with rfl|rfl|rfl|rfl|rfl
    ·exact YE
    ·exact YH
    ·exact YF
    ·exact YG
    ·exact YD⟩)
  zk
end Go.Proofs.YtddblpggomphpaaGreatDoor
