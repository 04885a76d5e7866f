/- Lemmas for the proof. No condition. -/
import Derived.Test.YtbngfhgoeoncmaaGreatDoorWB16
import Derived.Test.YtbngfhgoeoncmaaGreatDoorRows
import Derived.ProofKit
import Derived.LaidMore
import Derived.OpenShut
import Derived.Stop.Joined
import Derived.Stop.LaidErr
import Derived.Lib.LaidTab
import Derived.Laws.IdiomArrays
import Derived.Laws.StructEq
set_option linter.unusedVariables false
set_option linter.unusedSimpArgs false
set_option maxRecDepth 100000
set_option maxHeartbeats 16000000
open Array renaming getElem?_eq_none → bQ
open Bool renaming and_eq_true → aF
open Go.Ending renaming returned → aj
open Go.IntKind renaming i64 → I
open Go.Value renaming agg → aB, bool → ak, int → Z, slice → ah, string → O, tuple → aD
open List renaming all_cons → gD, all_eq_true → dI, getElem?_drop → jw, map_cons → bH, map_nil → gM, mem_append → T9, range → dB, take_append_drop → gJ
open List.cons renaming injEq → jc
open Nat renaming add_comm → iH, eq_zero_or_pos → aY, le_refl → aC, le_trans → au, lt_or_ge → aH, mul_comm → aJ, pow_le_pow_right → bW
open Prod.mk renaming injEq → fP
namespace Go.Proofs.YtbngfhgoeoncmaaGreatDoor
open Go Go.ChangeShapes Go.WideShapes Go.RowKit Go.Mem Go.Proofs
theorem chunks {α:Type} (c:Nat):∀ (n:Nat) (cs:List α),cs.length=n*c→cs=(dB n).flatMap fun i=>(cs.drop (i*c)).take c
 | 0,cs,h=>by
  have:cs=[]:=List.length_eq_zero_iff.1 (by simpa using h);subst this;rfl
 | n+1,cs,h=>by
  have hd:(cs.drop c).length=n*c:=by rw [List.length_drop,h,Nat.succ_mul];omega
  have ih:=chunks c n (cs.drop c) hd;rw [List.range_succ_eq_map,List.flatMap_cons,List.flatMap_map];simp only [Nat.zero_mul,List.drop_zero]
  conv=>lhs;rw [← gJ c cs]
  congr 1
  conv=>lhs;rw [ih]
  congr 1
  funext i
  rw [List.drop_drop,Nat.succ_mul,iH]
theorem sI {H:Type} {enc:TypeId × Value→H} {P:Program} {w:World} {base:Nat} {sp:Nat→Bool} {held:Bool} {fuel:Nat} {t e:TypeId} {n:Nat} {k:IntKind} {cs:List Value} {p:List MemPlace}
  (D:List Int→DataW H) (X0:List (List Int)) (ht:P.underlying t=some (.array n e)) (hc:P.cellsOf t=n*P.cellsOf e)
  (hin:∀ fuel cs zs p,DataW.trod enc P w base sp held fuel e cs=some (D zs,p)→cs=zs.map fun z=>Value.int k z)
  (h:DataW.trod enc P w base sp held fuel t cs=some (.agg (X0.map D),p)):cs=X0.flatten.map fun z=>Value.int k z:=by
 obtain ⟨xs,m,rfl,hx,hl,hn,hel⟩:=DataW.trod_array ht h;simp only [fP,DataW.agg.injEq] at hx
 have hz:X0.length=n:=by
  have:=congrArg List.length hx.1
  simpa [hn] using this
 have hk:∀ i (h:i<X0.length),(cs.drop (i*P.cellsOf e)).take (P.cellsOf e)=X0[i].map fun z=>Value.int k z:=fun i hi=>by
  have h1:=hel i zo;have hxi:i<xs.length:=by omega
  rw [List.getElem?_eq_getElem hxi] at h1
  have h2:xs[i].1=D X0[i]:=by
   have h3:=congrArg (·[i]?) hx.1;simp only [List.getElem?_map,List.getElem?_eq_getElem hi,List.getElem?_eq_getElem hxi,Option.map_some,Option.some.injEq] at h3;exact h3.symm
  exact hin m _ _ xs[i].2 (by rw [h1,← h2])
 rw [chunks (P.cellsOf e) n cs (by rw [hl,hc]),List.map_flatten,← hz]
 have hr:X0=(dB X0.length).map fun i=>X0.getD i []:=by
  apply List.ext_getElem
  ·simp
  ·intro i h1 h2;simp [h1]
 conv=>rhs;rw [hr]
 rw [List.map_map,List.flatMap_def]
 congr 1
 refine List.map_congr_left fun i hi=>?_;have hi':i<X0.length:=List.mem_range.1 hi;rw [hk i hi'];simp [hi']
theorem aX4 : Tryz.prog.globalNamed "internal/strconv.uint64pow10" = some 4 := by kernel_rfl
theorem aR3:(Tryz.prog.globals[4]?).map (·.type)=some 360:=by kernel_rfl
theorem aR1:Tryz.prog.underlying 360=some (.array 20 168):=by kernel_rfl
theorem au8 : Tryz.prog.globalNamed "strconv.ErrRange" = some 7 := by kernel_rfl
theorem aR4:(Tryz.prog.globals[7]?).map (·.type)=some 251:=by kernel_rfl
theorem sErr : "*" ++ "errors.errorString" = "*errors.errorString" := by decide
theorem aR5 (u : TypeId) (h : Tryz.prog.typeName? 3 u = some "*errors.errorString") : u = 370 :=
 typeName_ptr_named (nm := "errors.errorString") (by rw [sErr]; kernel_rfl) zk zd u (by rw [sErr]; exact h)
theorem au9 : Tryz.prog.globalNamed "verdigris/adapt.cones" = some 1 := by kernel_rfl
theorem an3:(Tryz.prog.globals[1]?).map (·.type)=some 190:=by kernel_rfl
theorem YB:Tryz.prog.underlying 190=some (.array 4 189):=by kernel_rfl
theorem YC:Tryz.prog.underlying 189=some (.array 3 188):=by kernel_rfl
theorem YD:Tryz.prog.underlying 188=some (.array 3 3):=by kernel_rfl
theorem aJ5 : Tryz.prog.globalNamed "verdigris/view.surrounds" = some 0 := by kernel_rfl
theorem aR2:(Tryz.prog.globals[0]?).map (·.type)=some 137:=by kernel_rfl
theorem aR0:Tryz.prog.underlying 137=some (.array 3 74):=by kernel_rfl
theorem VZ {α:Type} {l:List α} (h:l.length=5):∃ x0 x1 x2 x3 x4,l=[x0,x1,x2,x3,x4]:=by
 match l,h with
 | [x0,x1,x2,x3,x4],_=>exact ⟨x0,x1,x2,x3,x4,rfl⟩
theorem PI {H:Type} {enc:TypeId × Value→H} {P:Program} {w:World} {base:Nat} {sp:Nat→Bool} {held:Bool} {fuel:Nat} {cs:List Value} {p:List MemPlace} {zs:List Int} {t e:TypeId} {f0 f1 f2 f3 f4:Field} (hz:zs.length=5) (ht:P.underlying t=some (.struct #[f0,f1,f2,f3,f4])) (he:P.underlying e=some (TypeDesc.int I)) (hc:P.cellsOf t=5) (h1:P.cellsOf e=1)
  (ty:(f0.type,f1.type,f2.type,f3.type,f4.type)=(e,e,e,e,e)) (of:(f0.offset,f1.offset,f2.offset,f3.offset,f4.offset)=(0,1,2,3,4)) (h:DataW.trod enc P w base sp held fuel t cs=some (Lib.tabData .i64 zs,p)):cs=zs.map fun z=>Value.int .i64 z:=by
 obtain ⟨xs,n, -, hx,hl,hn,hf⟩:=DataW.trod_struct ht h;rw [hc] at hl;unfold Lib.tabData at hx;simp only [fP,DataW.agg.injEq] at hx ty of;obtain ⟨t0,t1,t2,t3,t4⟩:=ty;obtain ⟨o0,o1,o2,o3,o4⟩:=of;obtain ⟨c0,c1,c2,c3,c4,rfl⟩:=VZ hl;obtain ⟨z0,z1,z2,z3,z4,rfl⟩:=VZ hz;obtain ⟨x0,x1,x2,x3,x4,rfl⟩:=VZ hn;simp only [bH,gM,jc,and_true] at hx;obtain ⟨⟨e0,e1,e2,e3,e4⟩, -⟩:=hx
 have g:∀ c z (x:DataW H × List MemPlace),DataW.trod enc P w base sp held n e [c]=some x→DataW.lit (Lit.int I z)=x.1→c= Z I z:=fun c z x k1 k3=>by
  obtain ⟨y,hy,rfl, -⟩:=DataW.trod_int he k1;simp only [DataW.lit.injEq,Lit.int.injEq,true_and] at k3;subst k3;exact (List.cons.inj hy).1
 have k0:=hf 0 f0 rfl;have k1:=hf 1 f1 rfl;have k2:=hf 2 f2 rfl;have k3:=hf 3 f3 rfl;have k4:=hf 4 f4 rfl;rw [t0,o0,h1] at k0;rw [t1,o1,h1] at k1;rw [t2,o2,h1] at k2;rw [t3,o3,h1] at k3;rw [t4,o4,h1] at k4;rw [g c0 z0 x0 k0 e0,g c1 z1 x1 k1 e1,g c2 z2 x2 k2 e2,g c3 z3 x3 k3 e3,g c4 z4 x4 k4 e4];rfl
theorem Hy {H:Type} {enc:TypeId × Value→H} {w:World} {base:Nat} {sp:Nat→Bool} {held:Bool} {fuel:Nat} {cs:List Value} {p:List MemPlace} {zs:List Int} (hz:zs.length=5)
  (h:DataW.trod enc Tryz.prog w base sp held fuel 74 cs=some (Lib.tabData .i64 zs,p)):cs=zs.map fun z=>Value.int .i64 z :=
 PI hz Tryz.underlying74 Tryz.underlying3 zk zk rfl rfl h
theorem V5 {P:Program} {n:String} {d:DataW Unit} {r:List (String × DataW Unit)} {W:World} {g:Nat} {cs:Array Value} (hg:P.globalNamed n=some g) (h:laidMet P ((n,d)::r) W) (hv:W.var? P n=some cs) (h0:0<cs.size):∃ T,aA W g cs T:=by
 obtain ⟨ps,⟨g',t,cs',fuel,p,q,hg', -, hv', -, -, rfl⟩, -, hr⟩:=h;obtain rfl:=Option.some.inj (hg.symm.trans hg');obtain rfl:=Option.some.inj (hv.symm.trans hv')
 obtain ⟨⟨c,t,hb⟩, -⟩:=hr g 0 (by
  simp only [T9];exact .inl (.inl (List.mem_map.2 ⟨0,List.mem_range.2 h0,rfl⟩)))
 unfold World.var? at hv;rw [hg,Option.bind_some,hb] at hv;cases hv
 exact ⟨t,hb⟩
theorem QN {W : World} (h : laidMetH Tryz.prog [("math/bits.deBruijn32tab", Rows.laid_math_bits_deBruijn32tab), ("math/bits.deBruijn64tab", Rows.laid_math_bits_deBruijn64tab), ("internal/strconv.uint64pow10", Rows.laid_internal_strconv_uint64pow10), ("strconv.ErrRange", Rows.laid_strconv_ErrRange), ("strconv.ErrSyntax", Rows.laid_strconv_ErrSyntax), ("verdigris/adapt.cones", Rows.laid_verdigris_adapt_cones), ("verdigris/view.surrounds", Rows.laid_verdigris_view_surrounds)] W) : ko.Pow W ∧ whole.Er W ∧ adapt.kX W ∧ view.Aw W := by
 rw [MakeChecks.laidMetH_plain _ _ _ zk] at h;have h2:=laidMet.tail (laidMet.tail h);refine ⟨Lib.tabIs_of_head aX4 aR3 aR1 zk zk zk h2,?_,?_,?_⟩
 ·obtain ⟨a,s,hv, -⟩:=laid_sentinel (laidMet.tail h2) au8 aR4 Tryz.underlying251 aR5 Tryz.underlying370 Tryz.underlying372 rfl rfl Tryz.underlying9 zk zk;refine ⟨_,_,hv,?_⟩;have hc:=World.var?_cell au8 hv 0
  have e : (Tryz.prog.globalNamed "strconv.ErrRange").getD 0 = 7 := by rw [au8]; rfl
  rw [e]
  rcases aH 7 W.heap.size with h3|h3
  ·exact h3
  ·unfold World.cell? at hc;rw [bQ h3] at hc;simp at hc
 ·obtain ⟨ps,⟨g,t,cs,fuel,p,q,hg,ht,hvar,hd, -, -⟩, -⟩:=laidMet.tail (laidMet.tail (laidMet.tail h2));obtain rfl:=Option.some.inj (au9.symm.trans hg);obtain rfl:=Option.some.inj (an3.symm.trans ht)
  have e:cs.toList=adapt.oH.map fun z=>Value.int .i64 z:=by
   refine sI (D:=fun l:List Int=>DataW.agg [Lib.tabData .i64 (l.take 3),Lib.tabData .i64 ((l.drop 3).take 3),Lib.tabData .i64 (l.drop 6)])
    [adapt.oH.take 9,(adapt.oH.drop 9).take 9,(adapt.oH.drop 18).take 9,adapt.oH.drop 27] YB zk (fun fuel cs zs p h=>?_) hd
   have h3:=sI (k:=.i64) (D:=fun l:List Int=>Lib.tabData .i64 l) [zs.take 3,(zs.drop 3).take 3,zs.drop 6] YC zk (fun fuel cs zs p h=>Lib.cells_of_tab YD zk zk zk h) h;rw [h3]
   congr 1
   have e1:zs.drop 6=(zs.drop 3).drop 3:=by rw [List.drop_drop]
   simp only [List.flatten_cons,List.flatten_nil,List.append_nil];rw [e1,gJ,gJ]
  show W.var? Tryz.prog "verdigris/adapt.cones" = _
  rw [hvar,← e]
 ·have h3:=laidMet.tail (laidMet.tail (laidMet.tail (laidMet.tail h2)));obtain ⟨ps,⟨g,t,cs,fuel,p,q,hg,ht,hvar,hd, -, -⟩, -⟩:=id h3;obtain rfl:=Option.some.inj (aJ5.symm.trans hg);obtain rfl:=Option.some.inj (aR2.symm.trans ht)
  have e:cs.toList=[1000,1000,690,4,3,900,950,590,7,6,800,800,525,1,1].map fun z=>Value.int .i64 z :=
   sI (D:=fun l:List Int=>if l.length=5 then Lib.tabData .i64 l else .nil) [[1000,1000,690,4,3],[900,950,590,7,6],[800,800,525,1,1]] aR0 zk (fun fuel cs zs p h=>by
    by_cases hz:zs.length=5
    ·rw [if_pos hz] at h;exact Hy hz h
    ·rw [if_neg hz] at h;obtain ⟨xs,n, -, hx, -⟩:=DataW.trod_struct Tryz.underlying74 h;simp only [fP] at hx;cases hx.1) hd
  obtain ⟨T,hT⟩:=V5 aJ5 h3 hvar (by rw [← Array.length_toList,e];decide);refine ⟨T,?_⟩
  have e2:cs=#[Z I 1000,Z I 1000,Z I 690,Z I 4,Z I 3,Z I 900,Z I 950,Z I 590,Z I 7,Z I 6,Z I 800,Z I 800,Z I 525,Z I 1,Z I 1]:=by
   rw [← Array.toArray_toList (xs:=cs),e];rfl
  rw [← e2];exact hT
theorem ae6 {n:Int} (h:(Lit.int .u8 n).wf=true):0≤n∧n≤255:=by
 simp [Lit.wf,IntKind.min,IntKind.max,IntKind.signed,IntKind.bits] at h
 omega
theorem Ut {n:Int} (h:(Lit.int .u16 n).wf=true):0≤n∧n≤65535:=by
 simp [Lit.wf,IntKind.min,IntKind.max,IntKind.signed,IntKind.bits] at h
 omega
end Go.Proofs.YtbngfhgoeoncmaaGreatDoor
namespace Go.Proofs.view
open Go Go.RowKit Go.Num Go.Mem Go.Proofs Go.fG Go.Proofs.fB Go.Proofs.fM
section
variable {p q:Rat} {a b:Nat}
theorem Ld (h:Hq a p) (k:a<600):fG.wr p=(Fr.of p,0):=by unfold fG.wr;rw [if_pos (h.ok k)]
theorem sj (hp:Hq a p) (hq:Hq b q) (k:a+b<600):pO (Fr.of p) (Fr.of q)=(Fr.of (p*q),0):=(adapt.QT (hp.ok zo) (hq.ok zo)).trans (Ld (hp.mul hq) k)
theorem Xw (hp:Hq a p) (hq:Hq b q) (k:a+b+1<600):wS (Fr.of p) (Fr.of q)=(Fr.of (p+q),0):=(adapt.Rx (hp.ok zo) (hq.ok zo)).trans (Ld (hp.add hq) k)
theorem UJ (hp:Hq a p) (hq:Hq b q) (k:a+b+1<600):yE (Fr.of p) (Fr.of q)=(Fr.of (p - q),0):=(adapt.Qp (hp.ok zo) (hq.ok zo)).trans (Ld (hp.sub hq) k)
theorem yS (hp:Hq a p) (hq:Hq b q) (h0:q≠0) (k:a+b<600):nP (Fr.of p) (Fr.of q)=(Fr.of (p / q),0):=(adapt.Rj (hp.ok zo) (hq.ok zo) h0).trans (Ld (hp.div hq) k)
theorem Vk {n:Nat} (hp:jk p=true) (h:Hq a (p^n)) (k:a<600):JI (Fr.of p) n=(Fr.of (p^n),0):=by unfold JI;rw [je hp];exact Ld h k
theorem Bv (hp:Hq a p) (hq:Hq b q) (k:a<600) (l:b<600):tQ (Fr.of p) (Fr.of q)=(gZ p q,0):=by unfold tQ;rw [je (hp.ok k),je (hq.ok l)]
theorem UN (hp:Hq a p) (k:a<600):jQ (Fr.of p)=(gZ p 0,0):=by unfold jQ;rw [je (hp.ok k)]
theorem Px (h:q<p):gZ p q=1:=by unfold gZ;rw [if_neg (Rat.not_lt.2 (Rat.le_of_lt h)),if_pos h]
theorem Kj (h:q≤p):0≤gZ p q:=by unfold gZ;rw [if_neg (Rat.not_lt.2 h)];split<;>decide
theorem Pw (h:p≤q):gZ p q≤0:=by unfold gZ;split;decide;rw [if_neg (Rat.not_lt.2 h)];decide
end
theorem uM {p:Rat} (h:0<p):p≠0:=fun e=>by rw [e] at h;exact absurd h Rat.lt_irrefl
theorem Pz {p:Rat} {a:Nat} (hp:Hq a p) (k:a<600):Dk (Fr.of p)=0:=by unfold Dk;rw [je (hp.ok k)];rfl
theorem ab3 {f g h:Fr} {p q r:Rat} (e1:rd f=some p) (e2:rd g=some q) (e3:rd h=some r) (h1:0≤p) (h2:0≤q) (h3:0≤r):light.F3 ⟨f,g,h⟩=0:=by
 unfold light.F3 light.ig.list jU jQ;have c:∀ {z:Rat},0≤z→0≤gZ z 0:=fun {z} hz=>Kj hz
 simp only [gD,List.all_nil,e1,e2,e3,Option.isSome_some,Bool.and_self,if_true,decide_eq_true (c h1),decide_eq_true (c h2),decide_eq_true (c h3)]
theorem Qq {f g h:Fr} {p q r:Rat} (e1:rd f=some p) (e2:rd g=some q) (e3:rd h=some r) (h1:0<p) (h2:0<q) (h3:0<r):light.uy ⟨f,g,h⟩=0:=by
 unfold light.uy;rw [if_pos (ab3 e1 e2 e3 (Rat.le_of_lt h1) (Rat.le_of_lt h2) (Rat.le_of_lt h3))];unfold light.ig.list jQ;have c:∀ {z:Rat},0<z→gZ z 0≠0:=fun {z} hz=>by rw [Px hz];decide
 simp only [gD,List.all_nil,e1,e2,e3,Bool.and_self,if_true,decide_eq_true (c h1),decide_eq_true (c h2),decide_eq_true (c h3)]
def rQ (w:Nat→Rat) (i:Nat):Rat:=adapt.jL 3 i 0*w 0+adapt.jL 3 i 1*w 1+adapt.jL 3 i 2*w 2
structure Gw (w:Nat→Rat):Prop where
 hq:∀ i,i<3→Hq 6 (w i)
 pos:∀ i,i<3→0<w i
 y0:3 / 10≤w 1
 y1:w 1≤13 / 10
 r0:∀ i,i<3→3 / 10≤rQ w i
 r1:∀ i,i<3→rQ w i≤13 / 10
theorem Ke {i j:Nat} (hi:i<3) (hj:j<3):Hq 6 (adapt.jL 3 i j):=by
 have h:=adapt.Am (3*9+i*3+j) zo;have e:kL 6=1000000:=by decide
 exact ⟨adapt.oH.getD (3*9+i*3+j) 0,100000,by omega,by rw [e];decide,by rw [e];omega,rfl⟩
theorem Iq {w:Nat→Rat} (h:∀ i,i<3→Hq 6 (w i)) {i:Nat} (hi:i<3):Hq 38 (rQ w i):=by
 unfold rQ;exact (((Ke hi zo).mul (h 0 zo)).add ((Ke hi zo).mul (h 1 zo))).add ((Ke hi zo).mul (h 2 zo))
theorem yV {i:Nat} (h:i<3):i=0∨i=1∨i=2:=by omega
theorem Vh {w:Nat→Rat} (h:∀ i,i<3→Hq 6 (w i)) {i:Nat} (hi:i<3):adapt.qT (adapt.dY w) i=w i:=by
 have k:∀ {j},j<3→adapt.qF (Fr.of (w j))=w j:=fun {j} hj=>by unfold adapt.qF;rw [je ((h j hj).ok zo)];rfl
 rcases yV hi with rfl|rfl|rfl
 ·exact k zo
 ·exact k zo
 ·exact k zo
theorem aX8 (a b c x y z:Rat):mV [a,b,c] [x,y,z]=a*x+b*y+c*z:=by
 unfold mV;simp only [List.zipWith_cons_cons,List.zipWith_nil_left,List.foldl_cons,List.foldl_nil,Rat.zero_add]
theorem qj {w:Nat→Rat} (h:∀ i,i<3→Hq 6 (w i)) {i:Nat} (hi:i<3):adapt.jV 4 (adapt.dY w) i=rQ w i:=by
 have e:adapt.jV 4 (adapt.dY w) i=mV [adapt.jL 3 i 0,adapt.jL 3 i 1,adapt.jL 3 i 2] [adapt.qT (adapt.dY w) 0,adapt.qT (adapt.dY w) 1,adapt.qT (adapt.dY w) 2]:=by
  rcases yV hi with rfl|rfl|rfl<;>rfl
 rw [e,aX8,Vh h zo,Vh h zo,Vh h zo];rfl
theorem Dy {f g:Nat→Rat} (h:∀ i,i<3→f i=g i):adapt.dY f=adapt.dY g:=by unfold adapt.dY;rw [h 0 zo,h 1 zo,h 2 zo]
theorem ac1 {f:Nat→Rat} {a:Nat} (h:∀ i,i<3→Hq a (f i)) (k:a<600):adapt.mF f=true:=by
 unfold adapt.mF;rw [(h 0 zo).ok k,(h 1 zo).ok k,(h 2 zo).ok k];rfl
theorem EM {w:Nat→Rat} (h:∀ i,i<3→Hq 6 (w i)):adapt.mF (adapt.jV 4 (adapt.dY w))=true:=ac1 (a:=38) (fun i hi=>by rw [qj h hi];exact Iq h hi) zo
theorem YR {w:Nat→Rat} (h:∀ i,i<3→Hq 6 (w i)):zG (adapt.dY w)=(adapt.dY (rQ w),0):=by
 unfold zG;rw [EM h,if_pos rfl,Dy fun i hi=>qj h hi]
theorem UM {w:Nat→Rat} (g:Gw w):light.uy (adapt.dY w)=0 :=
 Qq (je ((g.hq 0 zo).ok zo)) (je ((g.hq 1 zo).ok zo)) (je ((g.hq 2 zo).ok zo)) (g.pos 0 zo) (g.pos 1 zo) (g.pos 2 zo)
theorem Zd:lI 1 1=(Fr.of 1,0):=by decide+kernel
theorem hq1:Hq 4 1:=⟨1,1,by decide,by decide,by decide,by decide+kernel⟩
theorem hq5:Hq 4 5:=⟨5,1,by decide,by decide,by decide,by decide+kernel⟩
theorem as2:Hq 4 18:=⟨18,1,by decide,by decide,by decide,by decide+kernel⟩
theorem as0:Hq 4 92:=⟨92,1,by decide,by decide,by decide,by decide+kernel⟩
theorem as1:Hq 4 2000:=⟨2000,1,by decide,by decide,by decide,by decide+kernel⟩
theorem UL:pW 0=((),0):=rfl
theorem wC {a b:Rat} (h0:0<a) (h:a≤b):0<b:=Std.lt_of_lt_of_le h0 h
theorem av5 {w:Nat→Rat} {l q:Rat} {s:Int} (g:Gw w) (hl:Hq 4 l) (l0:1≤l) (l1:l≤2000) (hq:Hq 4 q) (q0:0<q) (q1:q≤1) (s0:1≤s) (s1:s≤3):Aj (adapt.dY w) (Fr.of l) (Fr.of (w 1*q)) s=(adapt.dY (rQ w),0):=by
 have hy:=(g.hq 1 zo).mul hq;have w0:=g.pos 1 zo;have y0:0<w 1*q:=Rat.mul_pos w0 q0
 have y1:w 1*q≤w 1:=by
  have:=Rat.mul_le_mul_of_nonneg_left q1 (Rat.le_of_lt w0)
  rwa [Rat.mul_one] at this
 have r0:∀ i,i<3→0<rQ w i:=fun i hi=>wC (by decide+kernel) (g.r0 i hi);have sg:∀ i,i<3→jQ (Fr.of (rQ w i))=(1,0):=fun i hi=>by rw [UN (Iq g.hq hi) zo,Px (r0 i hi)]
 have e2:lI 2000 1=(Fr.of 2000,0):=by decide+kernel
 have bt:PN (Fr.of l) (Fr.of 1) (Fr.of 2000)=(true,0):=by
  unfold PN;rw [aQ (Bv hl hq1 zo zo),if_pos (Kj l0),aQ (Bv hl as1 zo zo)];unfold qg;rw [decide_eq_true (show gZ l 2000≤0 from Pw l1)]
 unfold Aj
 rw [UM g,Pz hl zo,Pz hy zo,aQ UL,aQ UL,aQ UL,aQ (YR g.hq),aQ (show jQ (adapt.dY (rQ w)).x=(1,0) from sg 0 zo),if_neg zd,aQ (show jQ (adapt.dY (rQ w)).y=(1,0) from sg 1 zo),if_neg zd,aQ (show jQ (adapt.dY (rQ w)).z=(1,0) from sg 2 zo),if_neg zd,
  aQ Zd,aQ e2,aQ bt,if_neg zd,aQ (UN hy zo),if_neg (by rw [Px y0];decide),aQ (show tQ (Fr.of (w 1*q)) (adapt.dY w).y=(gZ (w 1*q) (w 1),0) from Bv hy (g.hq 1 zo) zo zo),if_neg (by have:=Pw y1;omega),if_neg zo,if_neg zo]
 rfl
def dg (l:Rat):Rat:=1 - 5 / (18*(1+l / 92))
theorem MQ {l:Rat} (hl:Hq 4 l):Hq 26 (dg l):=by
 unfold dg;exact hq1.sub (hq5.div (as2.mul (hq1.add (hl.div as0))))
theorem Xc {l:Rat} (l0:1≤l):0<dg l∧dg l<1:=by
 unfold dg
 have h1:(1:Rat)≤1+l / 92:=by
  have:0≤l / 92:=by rw [Rat.div_def];exact Rat.mul_nonneg (Rat.le_trans (by decide+kernel) l0) (by decide+kernel)
  grind
 have h2:(18:Rat)≤18*(1+l / 92):=by grind
 have h3:(0:Rat)<18*(1+l / 92):=wC (by decide+kernel) h2;generalize 18*(1+l / 92)=z at *;have i0:=Rat.inv_pos.2 h3;have i1:=fB.Bn (show (0:Rat)<18 by decide+kernel) h2;rw [Rat.div_def];have e:(5:Rat)*(18:Rat)⁻¹<1:=by decide+kernel
 generalize z⁻¹=u at *;generalize (18:Rat)⁻¹=v at *
 constructor<;>grind
theorem aw4 {l F:Rat} (hl:Hq 4 l) (l0:1≤l) (hF:Hq 4 F):Xf (Fr.of l) (Fr.of F)=(Fr.of (F*dg l),0):=by
 have e1:lI 92 1=(Fr.of 92,0):=by decide+kernel
 have e2:lI 18 1=(Fr.of 18,0):=by decide+kernel
 have e3:lI 5 1=(Fr.of 5,0):=by decide+kernel
 have a1:=hl.div as0;have a2:=hq1.add a1;have a3:=as2.mul a2
 have h0:(18:Rat)*(1+l / 92)≠0:=uM (by
  have:0≤l / 92:=by rw [Rat.div_def];exact Rat.mul_nonneg (Rat.le_trans (by decide+kernel) l0) (by decide+kernel)
  grind)
 have a4:=hq5.div a3;have a5:=hq1.sub a4;unfold Xf;rw [aQ Zd,aQ e1,aQ (yS hl as0 (by decide+kernel) zo),aQ (Xw hq1 a1 zo),aQ e2,aQ (sj as2 a2 zo),aQ e3,aQ (yS hq5 a3 h0 zo),aQ (UJ hq1 a4 zo),aQ (sj hF a5 zo)];rfl
def gQ (w:Nat→Rat) (D:Rat) (i:Nat):Rat:=D*(w 1 / rQ w i)+(1 - D)
theorem row_one {i:Nat} (hi:i<3):adapt.jL 3 i 0+adapt.jL 3 i 1+adapt.jL 3 i 2=1:=by
 rcases yV hi with rfl|rfl|rfl<;>decide+kernel
theorem zJ (y:Rat) {i:Nat} (hi:i<3):rQ (fun _=>y) i=y:=by
 have:=row_one hi;unfold rQ
 grind
theorem ag2 {w:Nat→Rat} (g:Gw w) {D:Rat} (hD:Hq 30 D) {i:Nat} (hi:i<3):Hq 110 (gQ w D i):=by
 unfold gQ;exact ((hD.mul ((g.hq 1 zo).div (Iq g.hq hi))).add (hq1.sub hD)).mono zo
theorem au7 {w:Nat→Rat} (g:Gw w) {D:Rat} (hD:Hq 30 D) (d0:0≤D) (d1:D≤1):adapt.WQ 4 (adapt.dY w) ⟨(adapt.dY w).y,(adapt.dY w).y,(adapt.dY w).y⟩ (Fr.of D)=(adapt.dY (gQ w D),0):=by
 have e0:(⟨(adapt.dY w).y,(adapt.dY w).y,(adapt.dY w).y⟩:light.ig)=adapt.dY fun _=>w 1:=rfl;have hw1:∀ i,i<3→Hq 6 ((fun _=>w 1:Nat→Rat) i):=fun _ _=>g.hq 1 zo;have qd:adapt.qF (Fr.of D)=D:=by unfold adapt.qF;rw [je (hD.ok zo)];rfl
 have s2:light.uy (adapt.dY fun _=>w 1)=0:=by
  have e:=je ((g.hq 1 zo).ok zo);have p:=g.pos 1 zo;exact Qq e e e p p p
 have r0:∀ i,i<3→0<rQ w i:=fun i hi=>wC (by decide+kernel) (g.r0 i hi)
 have ar:adapt.Aq 4 (adapt.dY w) (adapt.dY fun _=>w 1) (Fr.of D)=0:=by
  unfold adapt.Aq;rw [if_neg zd,if_neg (by rw [UM g];decide),if_neg (by rw [s2];decide),if_neg (by rw [Pz hD zo];decide),qd,if_neg];rw [not_or];exact ⟨by have:=Kj d0;omega,by have:=Pw d1;omega⟩
 have go:∀ i,i<3→adapt.kS D (adapt.jV 4 (adapt.dY w) i) (adapt.jV 4 (adapt.dY fun _=>w 1) i)=true:=fun i hi=>by
  rw [qj g.hq hi,qj hw1 hi,zJ _ hi];have a1:=(g.hq 1 zo).div (Iq g.hq hi);unfold adapt.kS adapt.wI;rw [a1.ok zo,(hD.mul a1).ok zo,(hq1.sub hD).ok zo,((hD.mul a1).add (hq1.sub hD)).ok zo];rfl
 have z3:adapt.rC (adapt.jV 4 (adapt.dY w))=false:=by
  unfold adapt.rC;rw [qj g.hq zo,qj g.hq zo,qj g.hq zo,decide_eq_false (uM (r0 0 zo)),decide_eq_false (uM (r0 1 zo)),decide_eq_false (uM (r0 2 zo))];rfl
 have ge:adapt.oF 4 (adapt.dY w) (adapt.dY fun _=>w 1) (Fr.of D)=0:=by
  unfold adapt.oF;rw [if_neg (by rw [ar];decide),if_neg (by rw [EM g.hq];decide),if_neg (by rw [EM hw1];decide),if_neg (by rw [z3];decide),qd,go 0 zo,go 1 zo,go 2 zo];rfl
 rw [e0];unfold adapt.WQ;rw [ge,if_pos rfl,Dy (g:=gQ w D) fun i hi=>?_];unfold adapt.sG adapt.wI gQ;rw [qd,qj g.hq hi,qj hw1 hi,zJ _ hi]
end Go.Proofs.view
namespace Go.Proofs.view
open Go Go.RowKit Go.Num Go.Mem Go.Proofs Go.fG Go.Proofs.fB Go.Proofs.fM Go.Proofs.fE
theorem tY {f:Fr} {q:Rat} {A:Int × Int} (h:rd f=some q) (hA:jl A.1 A.2=true) (h1:un A.1≤q) (h2:q≤un A.2):∃ c,jI f=(c,0)∧Sb c A:=by
 have e:iM (un A.1) (un A.2)=(A,0):=by
  unfold iM;rw [Cm,Cm,kE,kE,← Rat.intCast_neg,Rat.floor_intCast,Rat.floor_intCast,Int.neg_neg];unfold jK;rw [if_pos hA]
 have e2:jI f=iM q q:=by rw [Js];unfold jI;rw [h]
 rw [e2];exact Il h1 Rat.le_refl h2 e
theorem Zy {a b A B C:Int × Int} (ha:Sb a A) (hb:Sb b B) (e:GU A B=(C,0)):∃ c,GU a b=(c,0)∧Sb c C:=by
 unfold GU at *;obtain ⟨y,e1,e2⟩:=gL e;obtain rfl:=CY e2;obtain ⟨c,h1,h2⟩:=JW ha hb e1;exact ⟨c,aQ h1,h2⟩
theorem V9 {a b c A B C D:Int × Int} (ha:Sb a A) (hb:Sb b B) (hc:Sb c C) (e:DJ A B C=(D,0)):∃ d,DJ a b c=(d,0)∧Sb d D:=by
 unfold DJ at *;obtain ⟨y,e1,e2⟩:=gL e;obtain ⟨z,e3,e4⟩:=gL e2;obtain rfl:=CY e4;obtain ⟨u,h1,h2⟩:=JW ha hb e1;obtain ⟨v,h3,h4⟩:=JW h2 hc e3;exact ⟨v,(aQ h1).trans (aQ h3),h4⟩
theorem Zz {a b A B C M U:Int × Int} (ha:Sb a A) (hb:Sb b B) (hA:jl A.1 A.2=true) (hB:jl B.1 B.2=true) (h0:0≤A.1) (h1:0≤B.1) (eM:qm A B=(M,0)) (eU:power.Da M.1 M.2 5 12=(U,0)) (hU:U.2≤100000000000000) (eC:(Ow U.1,Lx U.2)=C):∃ c,Py a b=(c,0)∧Sb c C:=by
 obtain ⟨m,e1,s1⟩:=uN ha hb eM;obtain ⟨u,e2,s2⟩:=JV s1 eU;have u0:=(power.ae9 (x:=u.1) (y:=u.2) e2).2;have u1:=(power.ae9 (x:=U.1) (y:=U.2) eU).2;have l1:=s2.lo;have l2:=s2.hi;have l3:=s2.le;have a0:=ha.lo;have b0:=hb.lo;subst eC;refine ⟨(Ow u.1,Lx u.2),?_,vT u1 l1,Int.le_trans (vT u0 l3) (zF zo),JA zo l2⟩;unfold Py cl
 have e:Hw a b=((Ow u.1,Lx u.2),0):=by
  unfold Hw;rw [aQ (rP (ha.jl hA)),aQ (rP (hb.jl hB)),if_neg zo,if_neg zo,aQ e1,aQ e2];exact QC u0 l3 zo
 rw [e,if_pos rfl]
def VG (n:Fr):(Int × Int) × Int :=
 bO (0,0) (lI 1 1) fun one=>bO (0,0) (nP one n) fun q=>bO (0,0) (jI q) fun q=>bO (0,0) (power.Da q.1 q.2 1 5) fun root =>
 bO (0,0) (lI 725 1000) fun m=>bO (0,0) (jI m) fun m=>bO (0,0) (qm m root) qg
def Rc (l:Rat):Int × Int:=(O4 (Fr.of l)).1
def Yb (q:Rat):Int × Int:=(VG (Fr.of q)).1
def rW:Int × Int:=(power.Da 5000000000000 10000000000000000 1 3).1
def mW:Int × Int:=(qm (80000000000,100000000000) rW).1
def fW:Int × Int:=(GU (0,1000000000000) mW).1
def nW:Int × Int:=(qm (pt 725000000000) (power.Da 1000000000000 100000000000000 1 5).1).1
def aW:Int × Int:=(300000000000,1300000000000)
def cU:Int × Int:=(power.Da (qm fW aW).1.1 (qm fW aW).1.2 5 12).1
def cW:Int × Int:=(Ow cU.1,Lx cU.2)
def sW:Int × Int:=(DJ (vQ cW 2 1).1 cW (vQ cW 1 20).1).1
def wW:Int × Int:=(qm sW nW).1
theorem V3 {l:Rat} (hl:Hq 4 l) (l0:1≤l) (l1:l≤2000):O4 (Fr.of l)=(Rc l,0)∧Sb (Rc l) fW:=by
 have e5:lI 5 1=(Fr.of 5,0):=by decide+kernel
 have e10:lI 1 10=(Fr.of (1 / 10),0):=by decide+kernel
 have h10:Hq 4 (1 / 10:Rat):=⟨1,10,by decide,by decide,by decide,by decide+kernel⟩;have a1:=hq5.mul hl;have a2:=a1.add hq1;have p2:(1:Rat)≤5*l+1:=by grind
 have n2:(5*l+1:Rat)≠0:=uM (wC (by decide+kernel) p2);have a3:=hq1.div a2;have u:=z8 l0
 have k6:1 / (5*l+1)≤1 / 6:=by
  have:=fB.Bn (show (0:Rat)<6 by decide+kernel) (show (6:Rat)≤5*l+1 by grind);rw [Rat.div_def,Rat.div_def,Rat.one_mul,Rat.one_mul];exact this
 have u4:=Iz u.1 u.2;generalize hk:1 / (5*l+1)=k at *;have sq:k*k≤1 / 36:=Rat.le_trans (Rat.mul_le_mul_of_nonneg_left k6 u.1) (Rat.le_trans (Rat.mul_le_mul_of_nonneg_right k6 (by decide+kernel)) (by decide+kernel));have sq0:0≤k*k:=Rat.mul_nonneg u.1 u.1;have e4:k^4=k*k*(k*k):=by grind
 have k4:k^4≤1 / 1296:=by
  rw [e4];exact Rat.le_trans (Rat.mul_le_mul_of_nonneg_left sq sq0) (Rat.le_trans (Rat.mul_le_mul_of_nonneg_right sq (by decide+kernel)) (by decide+kernel))
 have a4:Hq 68 (k^4):=by
  rw [e4];exact ((a3.mul a3).mul (a3.mul a3)).mono zo
 have a5:=a4.mul hl;have a6:=hq1.sub a4
 have a7:Hq 146 ((1 - k^4)^2):=by
  have e:(1 - k^4)^2=(1 - k^4)*(1 - k^4):=by grind
  rw [e];exact (a6.mul a6).mono zo
 have a8:=h10.mul a7;have f0:0≤k^4*l:=Rat.mul_nonneg u4.1 (Rat.le_trans (by decide+kernel) l0)
 have kl:k*l≤1:=by
  have h5:k*(5*l+1)=1:=by
   rw [← hk,Rat.div_def,Rat.one_mul];exact Rat.inv_mul_cancel _ n2
  have:=Rat.mul_nonneg u.1 (Rat.le_trans (by decide+kernel) l0);have:=u.1
  grind
 have f1:k^4*l≤1:=by
  have e:k^4*l=k*k*k*(k*l):=by grind
  rw [e];have c0:0≤k*k*k:=Rat.mul_nonneg sq0 u.1;have c1:k*k*k≤1:=Rat.le_trans (Rat.mul_le_mul_of_nonneg_left u.2 sq0) (by rw [Rat.mul_one];exact Rat.le_trans sq (by decide+kernel));exact Rat.le_trans (Rat.mul_le_mul_of_nonneg_left kl c0) (by rw [Rat.mul_one];exact c1)
 have g0:8 / 100≤1 / 10*(1 - k^4)^2∧1 / 10*(1 - k^4)^2≤1 / 10:=by
  have e:(1 - k^4)^2=(1 - k^4)*(1 - k^4):=by grind
  rw [e];have b0:95 / 100≤1 - k^4:=by grind
  have b1:1 - k^4≤1:=by have:=u4.1;grind
  have p0:(0:Rat)≤1 - k^4:=Rat.le_trans (by decide+kernel) b0;generalize 1 - k^4=z at *;have m0:=Rat.le_trans (Rat.mul_le_mul_of_nonneg_left b0 (show (0:Rat)≤95 / 100 by decide+kernel)) (Rat.mul_le_mul_of_nonneg_right b0 p0);have m1:z*z≤1:=Rat.le_trans (Rat.mul_le_mul_of_nonneg_left b1 p0) (by rw [Rat.mul_one];exact b1)
  constructor<;>grind
 have v0:(5:Rat)≤5*l:=by grind
 have v1:5*l≤10000:=by grind
 obtain ⟨x1,y1,z1⟩:=tY (f:=Fr.of (5*l)) (A:=(5000000000000,10000000000000000)) (je (a1.ok zo)) zd (Rat.le_trans (show un 5000000000000≤5 by decide+kernel) v0) (Rat.le_trans v1 (show (10000:Rat)≤un 10000000000000000 by decide+kernel));obtain ⟨x2,y2,z2⟩:=JV z1 (C:=rW) (P:=1) (Q:=3) (by decide+kernel);obtain ⟨x3,y3,z3⟩:=tY (f:=Fr.of (k^4*l)) (A:=(0,1000000000000)) (je (a5.ok zo)) zd (Rat.le_trans (show un 0≤0 by decide+kernel) f0) (Rat.le_trans f1 (show (1:Rat)≤un 1000000000000 by decide+kernel));obtain ⟨x4,y4,z4⟩:=tY (f:=Fr.of (1 / 10*(1 - k^4)^2)) (A:=(80000000000,100000000000)) (je (a8.ok zo)) zd (Rat.le_trans (show un 80000000000≤8 / 100 by decide+kernel) g0.1) (Rat.le_trans g0.2 (show (1 / 10:Rat)≤un 100000000000 by decide+kernel));obtain ⟨x5,y5,z5⟩:=uN z4 z2 (C:=mW) (by decide+kernel);obtain ⟨x6,y6,z6⟩:=Zy z3 z5 (C:=fW) (by decide+kernel)
 have a3k:jk k=true:=a3.ok zo
 have e:O4 (Fr.of l)=(x6,0):=by
  unfold O4
  rw [aQ Zd,aQ e5,aQ (sj hq5 hl zo),aQ (Xw a1 hq1 zo),aQ (show nP (Fr.of 1) (Fr.of (5*l+1))=(Fr.of k,0) by rw [← hk];exact yS hq1 a2 n2 zo),aQ (Vk a3k a4 zo),aQ (sj a4 hl zo),aQ (UJ hq1 a4 zo),aQ (Vk (a6.ok zo) a7 zo),aQ e10,aQ (sj h10 a7 zo),
   aQ y1,aQ y2,aQ y3,aQ y4,aQ y5,aQ y6]
  rfl
 have e2:Rc l=x6:=by unfold Rc;rw [e]
 rw [e2];exact ⟨e,z6⟩
theorem VF {q:Rat} (hq:Hq 4 q) (q0:1 / 100≤q) (q1:q≤1):VG (Fr.of q)=(Yb q,0)∧Sb (Yb q) nW:=by
 have p0:0<q:=wC (by decide+kernel) q0;have a1:=hq1.div hq
 have d1:(1:Rat)≤1 / q:=by
  have:=fB.Bn p0 q1;rw [Rat.div_def,Rat.one_mul];exact Rat.le_trans (by decide+kernel) this
 have d2:1 / q≤100:=by
  have:=fB.Bn (show (0:Rat)<1 / 100 by decide+kernel) q0;rw [Rat.div_def,Rat.one_mul];exact Rat.le_trans this (by decide+kernel)
 obtain ⟨x1,y1,z1⟩:=tY (f:=Fr.of (1 / q)) (A:=(1000000000000,100000000000000)) (je (a1.ok zo)) zd (Rat.le_trans (show un 1000000000000≤1 by decide+kernel) d1) (Rat.le_trans d2 (show (100:Rat)≤un 100000000000000 by decide+kernel));obtain ⟨x2,y2,z2⟩:=JV z1 (C:=(power.Da 1000000000000 100000000000000 1 5).1) (P:=1) (Q:=5) (by decide+kernel);obtain ⟨x3,y3,z3⟩:=uN (a:=pt 725000000000) (A:=pt 725000000000) (Sb.refl (Int.le_refl _)) z2 (C:=nW) (by decide+kernel);have aX6:lI 725 1000=(Fr.of (725 / 1000),0):=by decide+kernel
 have aR6:jI (Fr.of (725 / 1000))=(pt 725000000000,0):=by decide+kernel
 have e:VG (Fr.of q)=(x3,0):=by
  unfold VG;rw [aQ Zd,aQ (yS hq1 hq (uM p0) zo),aQ y1,aQ y2,aQ aX6,aQ aR6,aQ y3];rfl
 have e2:Yb q=x3:=by unfold Yb;rw [e]
 rw [e2];exact ⟨e,z3⟩
theorem PW {w:Nat→Rat} (g:Gw w) {D:Rat} (hD:Hq 30 D) (d0:0≤D) (d1:D≤1) {fl:Int × Int} (hf:Sb fl fW) {i:Nat} (hi:i<3):∃ c,Ar (Fr.of (rQ w i)) (Fr.of (gQ w D i)) fl=(c,0)∧Sb c cW:=by
 have r0:=wC (by decide+kernel) (g.r0 i hi)
 have e:rQ w i*gQ w D i=D*w 1+(1 - D)*rQ w i:=by
  have:=Rat.mul_inv_cancel (rQ w i) (uM r0);unfold gQ;rw [Rat.div_def];generalize (rQ w i)⁻¹=v at *
  grind
 have hh:=(Iq g.hq hi).mul (ag2 g hD hi)
 have lo:3 / 10≤rQ w i*gQ w D i:=by
  rw [e];have h1:=Rat.mul_le_mul_of_nonneg_left g.y0 d0;have h2:=Rat.mul_le_mul_of_nonneg_left (g.r0 i hi) (show 0≤1 - D by grind)
  grind
 have hi2:rQ w i*gQ w D i≤13 / 10:=by
  rw [e];have h1:=Rat.mul_le_mul_of_nonneg_left g.y1 d0;have h2:=Rat.mul_le_mul_of_nonneg_left (g.r1 i hi) (show 0≤1 - D by grind)
  grind
 obtain ⟨x1,y1,z1⟩:=tY (f:=Fr.of (rQ w i*gQ w D i)) (A:=aW) (je (hh.ok zo)) zd (Rat.le_trans (show un 300000000000≤3 / 10 by decide+kernel) lo) (Rat.le_trans hi2 (show (13 / 10:Rat)≤un 1300000000000 by decide+kernel));obtain ⟨c,y2,z2⟩:=Zz hf z1 (C:=cW) (M:=(qm fW aW).1) (U:=cU) (by decide+kernel) zd (by decide+kernel) zd (by decide+kernel) (by decide+kernel) (by decide+kernel) rfl;exact ⟨c,by unfold Ar;rw [aQ (sj (Iq g.hq hi) (ag2 g hD hi) zo),aQ y1,aQ y2];rfl,z2⟩
theorem az4 {n x y z:Int × Int} (hn:Sb n nW) (hx:Sb x cW) (hy:Sb y cW) (hz:Sb z cW):∃ c,TK n x y z=(c,0)∧Sb c wW:=by
 have kn:jl nW.1 nW.2=true:=by decide+kernel
 have kc:jl cW.1 cW.2=true:=by decide+kernel
 obtain ⟨x1,y1,z1⟩:=QY hx (n:=2) (d:=1) (C:=(vQ cW 2 1).1) (by decide+kernel);obtain ⟨x2,y2,z2⟩:=QY hz (n:=1) (d:=20) (C:=(vQ cW 1 20).1) (by decide+kernel);obtain ⟨x3,y3,z3⟩:=V9 z1 hy z2 (D:=sW) (by decide+kernel);obtain ⟨x4,y4,z4⟩:=uN z3 hn (C:=wW) (by decide+kernel);refine ⟨x4,?_,z4⟩
 have e:Xx n x y z=(x4,0):=by
  unfold Xx;rw [aQ (rP (hn.jl kn)),aQ (rP (hx.jl kc)),aQ (rP (hy.jl kc)),aQ (rP (hz.jl kc)),aQ y1,aQ y2,aQ y3,aQ y4];rfl
 unfold TK cl;rw [e,if_pos rfl]
theorem av3:0<fW.1:=by decide+kernel
theorem ap9:0<nW.1:=by decide+kernel
theorem an1:0<wW.1:=by decide+kernel
theorem aw8 {w:Nat→Rat} {l q F:Rat} (g:Gw w) (hl:Hq 4 l) (l0:1≤l) (l1:l≤2000) (hq:Hq 4 q) (q0:1 / 100≤q) (q1:q≤1) {f nc c nu de:Int} {N C:Fr} (ef:lI f 1000=(Fr.of F,0)) (hF:Hq 4 F) (F0:0≤F) (F1:F≤1) (en:lI nc 1000=(N,0)) (ec:lI c 1000=(C,0)) :
  ∃ aw,Sb aw wW∧Tw f nc c nu de (adapt.dY w) (Fr.of l) (Fr.of (w 1*q)) (adapt.dY (rQ w))=(((Fr.of F,N,C,Fr.of q,Fr.of (F*dg l)),(nu,de),adapt.dY (gQ w (F*dg l)),Rc l,Yb q,aw),0):=by
 have hD:Hq 30 (F*dg l):=hF.mul (MQ hl);have dp:=Xc l0;have d0:0≤F*dg l:=Rat.mul_nonneg F0 (Rat.le_of_lt dp.1);have d1:F*dg l≤1:=Rat.le_trans (Rat.mul_le_mul_of_nonneg_left (Rat.le_of_lt dp.2) F0) (by rw [Rat.mul_one];exact F1);obtain ⟨eL,sL⟩:=V3 hl l0 l1;obtain ⟨eN,sN⟩:=VF hq q0 q1;obtain ⟨x,ex,sx⟩:=PW g hD d0 d1 sL (i:=0) zo;obtain ⟨y,ey,sy⟩:=PW g hD d0 d1 sL (i:=1) zo;obtain ⟨z,ez,sz⟩:=PW g hD d0 d1 sL (i:=2) zo;obtain ⟨aw,ea,sa⟩:=az4 sN sx sy sz;refine ⟨aw,sa,?_⟩;have w0:=uM (g.pos 1 zo)
 have ed:nP (Fr.of (w 1*q)) (adapt.dY w).y=(Fr.of q,0):=by
  have:=yS ((g.hq 1 zo).mul hq) (g.hq 1 zo) w0 zo
  have e:w 1*q / w 1=q:=by
   have:=Rat.mul_inv_cancel (w 1) w0;rw [Rat.div_def];generalize (w 1)⁻¹=v at *
   grind
  rw [e] at this;exact this
 unfold Tw;rw [aQ ef,aQ en,aQ ec,aQ ed,aQ (aw4 hl l0 hF),aQ (au7 g hD d0 d1),aQ eL];unfold VG at eN;obtain ⟨n1,k1,eN⟩:=gL eN;obtain ⟨n2,k2,eN⟩:=gL eN;obtain ⟨n3,k3,eN⟩:=gL eN;obtain ⟨n4,k4,eN⟩:=gL eN;obtain ⟨n5,k5,eN⟩:=gL eN;obtain ⟨n6,k6,eN⟩:=gL eN;obtain ⟨n7,k7,eN⟩:=gL eN;rw [CY eN] at k7;rw [aQ k1,aQ k2,aQ k3,aQ k4,aQ k5,aQ k6,aQ k7];rw [aQ (show Ar (adapt.dY (rQ w)).x (adapt.dY (gQ w (F*dg l))).x (Rc l)=(x,0) from ex),aQ (show Ar (adapt.dY (rQ w)).y (adapt.dY (gQ w (F*dg l))).y (Rc l)=(y,0) from ey),aQ (show Ar (adapt.dY (rQ w)).z (adapt.dY (gQ w (F*dg l))).z (Rc l)=(z,0) from ez),aQ ea];rfl
end Go.Proofs.view
namespace Go.Proofs.aS
open Go Go.RowKit Go.SW Go.Num Go.Mem Go.Proofs Go.Dec Go.Proofs.aK Go.fG
theorem uf (n d:Int) (h1: -9223372036854775808≤n) (h2:n≤9223372036854775807) (h3: -9223372036854775808≤d) (h4:d≤9223372036854775807) (w:World) :
  Calls Tryz.prog 119 #[Z I n,Z I d] w (sP w (lI n d)):=by
 unfold lI
 by_cases hd:d=0
 ·subst hd;rw [if_pos rfl];clear h1 h2 h3 h4;go_enter Tryz.func119,Tryz.ntmps119
  go_wp2_with fail
  refine bX rfl rfl bq Tryz.underlying38 rfl zk ?_;exact ⟨rfl,aI⟩
 ·rw [if_neg hd];have H1:=zh (fun W=>Nw n d h1 h2 h3 h4 hd W);obtain ⟨l1,l2⟩:=VP (n:=n) hd;have H2:=zh (fun x W hx=>wU x ((n:Rat) / (d:Rat)) W hx (au (iJ zo l1) (au (Jt h1 h2) zo)) (au (iJ zo l2) (au (Jt h3 h4) zo)));clear l1 l2;generalize (n:Rat) / (d:Rat)=q at *;obtain ⟨⟨⟨s1,s2⟩,k⟩,E⟩:∃ y,wr q=y:=⟨_,rfl⟩;rw [E] at H2 ⊢;replace H2:Hid (∀ x W,Ra W x q→Calls Tryz.prog 121 #[x] W (fun e w'=>e= aj (aD #[aB #[O s1,O s2],Z I k])∧Bw W w')):=H2;clear E h1 h2 h3 h4;go_enter Tryz.func119,Tryz.ntmps119
  go_wp2_with fail
  obtain ⟨vk,EW,hz,X1⟩:=Gc w #[O ⟨#[]⟩,O ⟨#[]⟩] 38;rw [EW];have hk2:=Bt (Below.refl _ _) hz;clear EW hz;refine (H1.out _).mono ?_;rintro e um ⟨vq,rfl,hb3,hq⟩;replace X1:=X1.bl hb3;have hk5:=Bt hk2 hb3;clear hk2;have NQ:=zh hq;clear hb3 hq;go_wp2_with fail
  refine (H2.out _ _ NQ.out).mono ?_;rintro e Ij ⟨rfl,hb6⟩;replace X1:=X1.bl hb6;replace NQ:=zh (NQ.out.later hb6);have Oa:=Bt hk5 hb6;clear hk5;clear hb6;obtain ⟨qx,qo,sS⟩:=X1.clf;have hres:=X1.out;have Ho:=hres.cell;have He:=hres.free;go_wp2_with fail
  refine bX rfl rfl bq Tryz.underlying38 rfl zk ?_;exact ⟨rfl,aI⟩
end Go.Proofs.aS
namespace Go.Proofs.aS
open Go Go.RowKit Go.SW Go.Num Go.Mem Go.Proofs Go.Dec Go.Proofs.aK Go.fG Go.Fx
theorem DI {n k:Nat} (h:sz 1000000000 n≤k):sz 10000 n≤3*k:=by
 refine dF zo _ _ ?_;have h1:=jM (B:=1000000000) zo n;have h2:(1000000000:Nat)^sz 1000000000 n≤1000000000^k:=bW zo h;have h3:(1000000000:Nat)^k≤(10000^3)^k:=Nat.pow_le_pow_left zd k;rw [Nat.pow_mul];omega
theorem Ir (q:Rat):((q.den:Int):Rat)≠0:=fun e=>by
 have h:(q.den:Int)=0:=by exact_mod_cast e
 have:=q.den_pos;omega
theorem YE (p q:Rat):((p.num*q.num:Int):Rat) / (((p.den:Int)*(q.den:Int):Int):Rat)=p*q:=by
 have h1:=uI p;have h2:=uI q;have d1:=Ir p;have d2:=Ir q;rw [Rat.intCast_mul,Rat.intCast_mul];generalize (p.num:Rat)=a at *;generalize ((p.den:Int):Rat)=b at *;generalize (q.num:Rat)=c at *;generalize ((q.den:Int):Rat)=d at *;subst h1 h2
 grind
theorem ap2 (p q:Rat) (hq:q≠0):((p.num*(q.den:Int):Int):Rat) / (((p.den:Int)*q.num:Int):Rat)=p / q:=by
 have h1:=uI p;have h2:=uI q;have d1:=Ir p;have d2:=Ir q;have d3:((q.num:Int):Rat)≠0:=fun e=>hq (by rw [h2,e];grind);rw [Rat.intCast_mul,Rat.intCast_mul];generalize (p.num:Rat)=a at *;generalize ((p.den:Int):Rat)=b at *;generalize (q.num:Rat)=c at *;generalize ((q.den:Int):Rat)=d at *;subst h1 h2
 grind
theorem ao4 (p q:Rat):((p.num*(q.den:Int)+q.num*(p.den:Int):Int):Rat) / (((p.den:Int)*(q.den:Int):Int):Rat)=p+q:=by
 have h1:=uI p;have h2:=uI q;have d1:=Ir p;have d2:=Ir q;rw [Rat.intCast_add,Rat.intCast_mul,Rat.intCast_mul,Rat.intCast_mul];generalize (p.num:Rat)=a at *;generalize ((p.den:Int):Rat)=b at *;generalize (q.num:Rat)=c at *;generalize ((q.den:Int):Rat)=d at *;subst h1 h2
 grind
theorem mQ.four {k:Nat} {q:Rat} (h:mQ k q):sz 10000 q.num.natAbs≤3*k∧sz 10000 (q.den:Int).natAbs≤3*k:=⟨DI h.1,by rw [Int.natAbs_natCast];exact DI h.2⟩
theorem qc {a b:Int} {m n:Nat} (h:sz 10000 a.natAbs≤m) (k:sz 10000 b.natAbs≤n):sz 10000 (a*b).natAbs≤m+n:=by
 rw [Int.natAbs_mul];have:=mR (B:=10000) zo a.natAbs b.natAbs;omega
theorem YK {a b:Int} {m:Nat} (h:sz 10000 a.natAbs≤m) (k:sz 10000 b.natAbs≤m):sz 10000 (a+b).natAbs≤m+1:=by
 have h1:=iJ (B:=10000) zo (Int.natAbs_add_le a b);have h2:=AZ (B:=10000) zo a.natAbs b.natAbs;omega
theorem Av (x:Value) (p:Rat) (w:World) (hx:Ra w x p):Calls Tryz.prog 292 #[x] w (pU w (-p)):=by
 obtain ⟨bA,oV,lA,pJ,I9,tu,IK,tV,rfl,NA,Nz⟩:=id hx;have H:=fun W (h:Pl W (aB #[ak bA,ah oV lA pJ]) p.num)=>(aK.Av _ _ W h).mono fun _ _ q=>Sv q
 have HQ:∀ w b pa l ca,Pl w (aB #[ak b,ah pa l ca]) (-p.num)→Pl w (aB #[ak I9,ah tu IK tV]) p.den→Ra w (aB #[ak b,ah pa l ca,ak I9,ah tu IK tV]) (-p):=fun w b pa l ca h1 h2=>by
  unfold Ra;rw [Rat.neg_num,Rat.neg_den];exact ⟨_,_,_,_,_,_,_,_,rfl,h1,h2⟩
 refine Fx.door Tryz.func292 rfl (.nil w []) ?_;have B0:=Fx.Dn.nil w;refine Fx.new [] 1 #[ak bA,ah oV lA pJ,ak I9,ah tu IK tV] 181 [] [] fun iB=>?_;refine Fx.bK [] 2 181 [] [] fun jX=>?_;refine Fx.draw [] [0,1,3,4,2,5,6] [] [] [] ?_;refine Fx.iP [3,3] 5 [(7,aB #[ak I9,ah tu IK tV])] [] (fun W M=>H _ (NA.later (B0.at M))) ?_;rintro W w3 e M ⟨b1,p1,l1,c1,rfl,D3,Q1⟩;refine ⟨D3,fun M3=>?_⟩;have B3:=B0.next M3
 exact Fx.mU (cs:=#[ak b1,ah p1 l1 c1,ak I9,ah tu IK tV]) 1 jX [4] [(1,#[ak b1,ah p1 l1 c1,ak I9,ah tu IK tV])] (fun W M=>by have HB:=(B3.at M);exact ⟨_,rfl,HB,HQ _ _ _ _ _ (Q1.keep (M3.keep M)) (Nz.later (B3.at M))⟩)
theorem mI (x y:Value) (p q:Rat) (w:World) (hx:Ra w x p) (hy:Ra w y q) (h1:mQ 10000000000 p) (h2:mQ 10000000000 q):Calls Tryz.prog 122 #[x,y] w (pU w (p*q)):=by
 obtain ⟨bA,oV,lA,pJ,I9,tu,IK,tV,rfl,NA,Nz⟩:=id hx;obtain ⟨bB,qZ,lB,q8,Yk,GY,Ye,H8,rfl,NB,PZ⟩:=id hy;obtain ⟨s1,s2⟩:=mQ.four h1;obtain ⟨s3,s4⟩:=mQ.four h2;have S1:sz 10000 p.num.natAbs≤549755813888:=zo;have S2:sz 10000 (p.den:Int).natAbs≤549755813888:=zo;have S3:sz 10000 q.num.natAbs≤549755813888:=zo;have S4:sz 10000 (q.den:Int).natAbs≤549755813888:=zo;have L1:sz 10000 (p.num*q.num).natAbs≤274877906944:=by have:=qc s1 s3;omega
 have L2:sz 10000 ((p.den:Int)*(q.den:Int)).natAbs≤274877906944:=by have:=qc s2 s4;omega
 have L3:(p.den:Int)*(q.den:Int)≠0:=Int.mul_ne_zero (by have:=p.den_pos;omega) (by have:=q.den_pos;omega);have HL:=fun x y w hx hy=>(xO x y (p.num*q.num) ((p.den:Int)*(q.den:Int)) w hx hy L1 L2 L3).mono fun _ _ q=>vD q;rw [YE] at HL;refine Fx.door Tryz.func122 rfl (.nil w []) ?_;have B0:=Fx.Dn.nil w;refine Fx.new [] 2 #[ak bA,ah oV lA pJ,ak I9,ah tu IK tV] 181 [] [] fun iB=>?_;refine Fx.new [] 3 #[ak bB,ah qZ lB q8,ak Yk,ah GY Ye H8] 181 [] [] fun jX=>?_;refine Fx.bK [] 4 181 [] [] fun jN=>?_;refine Fx.draw [] [0,1,2,3,5,6,7,8,4,9,10,11] [] [] [] ?_;refine Fx.iP [3,4,3,4] 9 [(11,aB #[ak I9,ah tu IK tV]),(13,aB #[ak Yk,ah GY Ye H8])] [] (fun W M=>aK.mI _ _ _ _ _ (NA.later (B0.at M)) (NB.later (B0.at M)) S1 S3) ?_;rintro W w4 e M ⟨v1,rfl,D4,Q1⟩;refine ⟨D4,fun M4=>?_⟩
 have B4:=B0.next M4
 refine Fx.iP [] 14 [] [] (fun W M=>aK.mI _ _ _ _ _ (Nz.later (B4.at M)) (PZ.later (B4.at M)) S2 S4) ?_;rintro W w5 e M ⟨v2,rfl,D5,Q2⟩;refine ⟨D5,fun M5=>?_⟩;replace Q1:=Q1.keep (M4.keep M5);have B5:=B4.next M5
 refine Fx.iP [] 15 [] [] (fun W M=>HL _ _ _ (Q1.keep (M5.keep M)) (Q2.keep (M5.keep M))) ?_;rintro W w6 e M ⟨n3,p3,l3,c3,m3,q3,j3,d3,rfl,D6,Q3⟩;refine ⟨D6,fun M6=>?_⟩;have B6:=B5.next M6
 exact Fx.mU (cs:=#[ak n3,ah p3 l3 c3,ak m3,ah q3 j3 d3]) 2 jN [5] [(2,#[ak n3,ah p3 l3 c3,ak m3,ah q3 j3 d3])] (fun W M=>by have HB:=(B6.at M);exact ⟨_,rfl,HB,(Q3.keep (M6.keep M))⟩)
theorem ac8 (x y:Value) (p q:Rat) (w:World) (hx:Ra w x p) (hy:Ra w y q) (h1:mQ 10000000000 p) (h2:mQ 10000000000 q) (h0:q≠0):Calls Tryz.prog 256 #[x,y] w (pU w (p / q)):=by
 obtain ⟨bA,oV,lA,pJ,I9,tu,IK,tV,rfl,NA,Nz⟩:=id hx;obtain ⟨bB,qZ,lB,q8,Yk,GY,Ye,H8,rfl,NB,PZ⟩:=id hy;obtain ⟨s1,s2⟩:=mQ.four h1;obtain ⟨s3,s4⟩:=mQ.four h2;have S1:sz 10000 p.num.natAbs≤549755813888:=zo;have S2:sz 10000 (p.den:Int).natAbs≤549755813888:=zo;have S3:sz 10000 q.num.natAbs≤549755813888:=zo;have S4:sz 10000 (q.den:Int).natAbs≤549755813888:=zo;have L1:sz 10000 (p.num*(q.den:Int)).natAbs≤274877906944:=by have:=qc s1 s4;omega
 have L2:sz 10000 ((p.den:Int)*q.num).natAbs≤274877906944:=by have:=qc s2 s3;omega
 have L3:(p.den:Int)*q.num≠0:=Int.mul_ne_zero (by have:=p.den_pos;omega) (fun e=>h0 (Rat.num_eq_zero.1 e));have HL:=fun x y w hx hy=>(xO x y (p.num*(q.den:Int)) ((p.den:Int)*q.num) w hx hy L1 L2 L3).mono fun _ _ q=>vD q;rw [ap2 p q h0] at HL;refine Fx.door Tryz.func256 rfl (.nil w []) ?_;have B0:=Fx.Dn.nil w;refine Fx.new [] 2 #[ak bA,ah oV lA pJ,ak I9,ah tu IK tV] 181 [] [] fun iB=>?_;refine Fx.new [] 3 #[ak bB,ah qZ lB q8,ak Yk,ah GY Ye H8] 181 [] [] fun jX=>?_;refine Fx.bK [] 4 181 [] [] fun jN=>?_;refine Fx.draw [] [0,1,2,3,5,6,7,8,4,9,10,11] [] [] [] ?_;refine Fx.iP [3,4,3,4] 9 [(11,aB #[ak I9,ah tu IK tV]),(13,aB #[ak bB,ah qZ lB q8])] [] (fun W M=>aK.mI _ _ _ _ _ (NA.later (B0.at M)) (PZ.later (B0.at M)) S1 S4) ?_;rintro W w4 e M ⟨v1,rfl,D4,Q1⟩;refine ⟨D4,fun M4=>?_⟩
 have B4:=B0.next M4
 refine Fx.iP [] 14 [] [] (fun W M=>aK.mI _ _ _ _ _ (Nz.later (B4.at M)) (NB.later (B4.at M)) S2 S3) ?_;rintro W w5 e M ⟨v2,rfl,D5,Q2⟩;refine ⟨D5,fun M5=>?_⟩;replace Q1:=Q1.keep (M4.keep M5);have B5:=B4.next M5
 refine Fx.iP [] 15 [] [] (fun W M=>HL _ _ _ (Q1.keep (M5.keep M)) (Q2.keep (M5.keep M))) ?_;rintro W w6 e M ⟨n3,p3,l3,c3,m3,q3,j3,d3,rfl,D6,Q3⟩;refine ⟨D6,fun M6=>?_⟩;have B6:=B5.next M6
 exact Fx.mU (cs:=#[ak n3,ah p3 l3 c3,ak m3,ah q3 j3 d3]) 2 jN [5] [(2,#[ak n3,ah p3 l3 c3,ak m3,ah q3 j3 d3])] (fun W M=>by have HB:=(B6.at M);exact ⟨_,rfl,HB,(Q3.keep (M6.keep M))⟩)
theorem AA (x y:Value) (p q:Rat) (w:World) (hx:Ra w x p) (hy:Ra w y q) (h1:mQ 10000000000 p) (h2:mQ 10000000000 q):Calls Tryz.prog 255 #[x,y] w (pU w (p+q)):=by
 obtain ⟨bA,oV,lA,pJ,I9,tu,IK,tV,rfl,hA1,hA2⟩:=id hx;obtain ⟨bB,qZ,lB,q8,Yk,GY,Ye,H8,rfl,hB1,hB2⟩:=id hy;have QA:=zh hx;have NA:=zh hA1;have Nz:=zh hA2;have QB:=zh hy;have NB:=zh hB1;have PZ:=zh hB2;obtain ⟨s1,s2⟩:=mQ.four h1;obtain ⟨s3,s4⟩:=mQ.four h2;have S1:Hid (sz 10000 p.num.natAbs≤549755813888):=zh zo;have S2:Hid (sz 10000 (p.den:Int).natAbs≤549755813888):=zh zo;have S3:Hid (sz 10000 q.num.natAbs≤549755813888):=zh zo;have S4:Hid (sz 10000 (q.den:Int).natAbs≤549755813888):=zh zo;have a1:=qc s1 s4;have a2:=qc s3 s2;have P1:Hid (sz 10000 (p.num*(q.den:Int)).natAbs≤549755813888):=zh zo;have P2:Hid (sz 10000 (q.num*(p.den:Int)).natAbs≤549755813888):=zh zo;have L1:Hid (sz 10000 (p.num*(q.den:Int)+q.num*(p.den:Int)).natAbs≤274877906944):=zh (by have:=YK a1 a2;omega)
 have L2:Hid (sz 10000 ((p.den:Int)*(q.den:Int)).natAbs≤274877906944):=zh (by have:=qc s2 s4;omega);have L3:Hid ((p.den:Int)*(q.den:Int)≠0):=zh (Int.mul_ne_zero (by have:=p.den_pos;omega) (by have:=q.den_pos;omega));have HL:=zh (fun x y w hx hy=>xO x y (p.num*(q.den:Int)+q.num*(p.den:Int)) ((p.den:Int)*(q.den:Int)) w hx hy L1.out L2.out L3.out);rw [ao4] at HL;clear hx hy hA1 hA2 hB1 hB2 h1 h2 s1 s2 s3 s4 L1 L2 L3 a1 a2;go_enter Tryz.func255,Tryz.ntmps255
 go_wp2_with fail
 obtain ⟨vk,EW,hz,X1,X2,X3⟩:=Uc w #[ak bA,ah oV lA pJ,ak I9,ah tu IK tV] 181 #[ak bB,ah qZ lB q8,ak Yk,ah GY Ye H8] 181 #[ak false,ah none 0 0,ak false,ah none 0 0] 181;rw [EW];replace NA:=zh (NA.out.later hz);replace Nz:=zh (Nz.out.later hz);replace NB:=zh (NB.out.later hz);replace PZ:=zh (PZ.out.later hz);have hk2:=Bt (Below.refl _ _) hz;clear EW hz;obtain ⟨qx,qo,sS⟩:=X1.clf;obtain ⟨Cz,Cr,IZ⟩:=X2.clf;refine aO [(.pure,0),(.read,1),(.pure,2),(.read,3),(.pure,5),(.read,6),(.pure,7),(.read,8),(.ext,4),(.ext,9),(.ext,10),(.alloc #[ak false,ah none 0 0] 179,11),(.fin,12)] zk zk zR zP ?_;refine zV ?_;refine aL rfl rfl (fun we3 hb3 J hJ=>?_);go_simp;have hh3:Bw vk we3:=aI;clear hb3
 refine (aK.mI _ _ _ _ _ (NA.out.later hh3) (PZ.out.later hh3) S1.out S4.out).mono ?_;rintro e wc4 ⟨v,rfl,hb4,hv5⟩;obtain ⟨bC,paC,lC,caC,rfl⟩:=hv5.agg;refine hJ _ _ hb4 ?_;clear hJ J;have Wx:=Bt hh3 hb4;have NC:=zh hv5;clear hh3 hb4 hv5;refine zV ?_;refine aL rfl rfl (fun Le hb6 J hJ=>?_);go_simp;have AQ:Bw vk Le:=Bt Wx aI;replace NC:=zh (NC.out.later (show Bw wc4 Le from aI));clear hb6 Wx;refine (aK.mI _ _ _ _ _ (NB.out.later AQ) (Nz.out.later AQ) S3.out S2.out).mono ?_;rintro e Jl ⟨v,rfl,jY,wF⟩;obtain ⟨bD,paD,lD,caD,rfl⟩:=wF.agg;refine hJ _ _ jY ?_;clear hJ J;have IW:=Bt AQ jY;replace NC:=zh (NC.out.later jY);have ND:=zh wF;clear AQ jY wF;refine zV ?_;refine aL rfl rfl (fun K8 rJ J hJ=>?_);go_simp;have rH:Bw vk K8:=Bt IW aI
 replace NC:=zh (NC.out.later (show Bw Jl K8 from aI));replace ND:=zh (ND.out.later (show Bw Jl K8 from aI));clear rJ IW;refine (aK.AA _ _ _ _ _ NC.out ND.out P1.out P2.out).mono ?_;rintro e xP ⟨v,rfl,lN,sw⟩;obtain ⟨bF,paF,lF,caF,rfl⟩:=sw.agg;refine hJ _ _ lN ?_;clear hJ J;have tK:=Bt rH lN;replace NC:=zh (NC.out.later lN);replace ND:=zh (ND.out.later lN);have NF:=zh sw;clear rH lN sw;refine zV ?_;refine dU rfl (fun BA aQ9 Wj sD J4 Pn qO=>?_);go_simp;replace qO:aA _ _ _ _:=qO;have Pk:w.heap.size≤BA:=(by first|omega|exact au (Below.size (B:=w.heap.size) aI) sD);refine cZ [_] rfl (fun Uq aH4=>?_);replace NC:=zh (NC.out.later (show Bw xP Uq from aI))
 replace ND:=zh (ND.out.later (show Bw xP Uq from aI));replace NF:=zh (NF.out.later (show Bw xP Uq from aI));have FD:Bw vk Uq:=Bt tK aI;have hq0:=qO.later aH4;have cq0:=hq0.cell;have Z5:=hq0.free;clear qO aH4 tK;clear qx qo sS Cz Cr IZ;go_wp2_with fail
 obtain ⟨Ul,EW⟩:∃ y,((Uq.setCell ⟨BA,0,none⟩ (ak bF)).setCell ⟨BA,1,none⟩ (ah paF lF caF))=y:=⟨_,rfl⟩;have hz:Bw vk Ul:=by rw [← EW];exact ((FD.setCell sD _).setCell sD _)
 have X4:Hid (aA Ul BA #[ak bF,ah paF lF caF] 179):=zh (by rw [← EW];exact ((hq0.set 0 _).set 1 _));clear NC;clear ND;have t:=((NF.out.setOther hq0 zd 0 (ak bF)).setOther (hq0.set 0 _) zd 1 (ah paF lF caF));rw [EW] at t;replace NF:=zh t;clear t;rw [EW];clear EW hq0 cq0 Z5 FD;replace NA:=zh (NA.out.later hz);replace Nz:=zh (Nz.out.later hz);replace NB:=zh (NB.out.later hz);replace PZ:=zh (PZ.out.later hz);replace X1:=X1.bl hz;replace X2:=X2.bl hz;replace X3:=X3.bl hz;have aG9:=Bt hk2 hz;clear hk2;clear hz;clear Wj sD J4 Pn Pk;go_wp2_with fail
 obtain ⟨cX4,lX4,fX4⟩:=X4.clf;obtain ⟨qx,qo,sS⟩:=X1.clf;obtain ⟨Cz,Cr,IZ⟩:=X2.clf;refine aO [(.read,0),(.pure,1),(.read,2),(.pure,3),(.read,4),(.ext,5),(.ext,6),(.fin,7)] zk zk zR zP ?_;refine zV ?_;refine aL rfl rfl (fun aQ7 aW7 J hJ=>?_);go_simp;have ZN:Bw Ul aQ7:=aI;clear aW7;refine (aK.mI _ _ _ _ _ (Nz.out.later ZN) (PZ.out.later ZN) S2.out S4.out).mono ?_;rintro e aQ8 ⟨v,rfl,au1,ar8⟩;obtain ⟨bG,Ya,lG,Yi,rfl⟩:=ar8.agg;refine hJ _ _ au1 ?_;clear hJ J;have FC:=Bt ZN au1;have NG:=zh ar8;clear ZN au1 ar8;refine zV ?_;refine aL rfl rfl (fun aC7 aW6 J hJ=>?_);go_simp;have as8:Bw Ul aC7:=Bt FC aI;replace NG:=zh (NG.out.later (show Bw aQ8 aC7 from aI));clear aW6 FC;refine (HL.out _ _ _ (NF.out.later as8) NG.out).mono ?_
 rintro e an0 ⟨v,rfl,FI,O7⟩;obtain ⟨bE,paE,lE,caE,bEd,bg9,lEd,bm4,rfl,aU5,aU4⟩:=id O7;refine hJ _ _ FI ?_;clear hJ J;have aH0:=Bt as8 FI;replace NG:=zh (NG.out.later FI);have QE:=zh O7;clear as8 FI O7 aU5 aU4;refine zV ?_;refine cZ [_] rfl (fun am9 aV5=>?_);replace NG:=zh (NG.out.later (show Bw an0 am9 from aI));replace QE:=zh (QE.out.later (show Bw an0 am9 from aI));have FB:Bw Ul am9:=Bt aH0 aI;clear aV5 aH0;clear cX4 lX4 fX4 qx qo sS Cz Cr IZ;replace NA:=zh (NA.out.later FB);replace Nz:=zh (Nz.out.later FB);replace NB:=zh (NB.out.later FB);replace PZ:=zh (PZ.out.later FB);replace X1:=X1.bl FB;replace X2:=X2.bl FB;replace X3:=X3.bl FB;replace X4:=X4.bl FB;replace NF:=zh (NF.out.later FB);have bi6:=Bt aG9 FB;clear aG9;clear FB;clear NG
 obtain ⟨Yj,Yd,Z8⟩:=X3.clf;have hres:=X3.out;have Ho:=hres.cell;have He:=hres.free;go_wp2_with fail
 refine gG rfl rfl bq Tryz.underlying181 rfl zk ?_;exact ⟨_,rfl,aI,Ra.Sg QE.out hres zd _ _ _ _⟩
theorem wV (x y:Value) (p q:Rat) (w:World) (hx:Ra w x p) (hy:Ra w y q) (h1:mQ 10000000000 p) (h2:mQ 10000000000 q):Calls Tryz.prog 254 #[x,y] w (pU w (p - q)):=by
 have HT:=fun W h=>(Av y q W h).mono fun _ _ q=>vD q;have HP:=fun v W h k=>(AA x v p (-q) W h k h1 (CJ h2)).mono fun _ _ q=>vD q;rw [← Rat.sub_eq_add_neg] at HP;obtain ⟨bA,oV,lA,pJ,I9,tu,IK,tV,rfl,NA,Nz⟩:=id hx;obtain ⟨bB,qZ,lB,q8,Yk,GY,Ye,H8,rfl,NB,PZ⟩:=id hy;refine Fx.door Tryz.func254 rfl (.nil w []) ?_;have B0:=Fx.Dn.nil w;refine Fx.new [] 2 #[ak bA,ah oV lA pJ,ak I9,ah tu IK tV] 181 [] [] fun iB=>?_;refine Fx.new [] 3 #[ak bB,ah qZ lB q8,ak Yk,ah GY Ye H8] 181 [] [] fun jX=>?_;refine Fx.bK [] 4 181 [] [] fun jN=>?_;refine Fx.draw [] (dB 5) [] [] [] ?_;refine Fx.iP [3,4] 7 [(5,aB #[ak bA,ah oV lA pJ,ak I9,ah tu IK tV])] [] (fun W M=>HT _ (hy.later (B0.at M))) ?_;rintro W w4 e M ⟨n1,p1,l1,c1,m1,q1,j1,d1,rfl,D4,Q1⟩;refine ⟨D4,fun M4=>?_⟩;have B4:=B0.next M4
 refine Fx.iP [] 8 [] [] (fun W M=>HP _ _ (hx.later (B4.at M)) (Q1.keep (M4.keep M))) ?_;rintro W w5 e M ⟨n3,p3,l3,c3,m3,q3,j3,d3,rfl,D5,Q3⟩;refine ⟨D5,fun M5=>?_⟩;have B5:=B4.next M5
 exact Fx.mU (cs:=#[ak n3,ah p3 l3 c3,ak m3,ah q3 j3 d3]) 2 jN [5] [(2,#[ak n3,ah p3 l3 c3,ak m3,ah q3 j3 d3])] (fun W M=>by have HB:=(B5.at M);exact ⟨_,rfl,HB,(Q3.keep (M5.keep M))⟩)
theorem aw9 (p q:Rat):ab2 (p.num*(q.den:Int)) (q.num*(p.den:Int))=gZ p q:=by
 rw [← DR];unfold ab2 xR;split
 ·rw [if_neg zo,if_pos zo]
 ·split
  ·rw [if_neg zo,if_neg zo]
  ·rw [if_pos zo]
theorem Gt (x y:Value) (p q:Rat) (w:World) (hx:Ra w x p) (hy:Ra w y q) (h1:mQ 10000000000 p) (h2:mQ 10000000000 q):Calls Tryz.prog 253 #[x,y] w (fun e w'=>e= aj (Z I (gZ p q))∧Bw w w'):=by
 obtain ⟨bA,oV,lA,pJ,I9,tu,IK,tV,rfl,NA,Nz⟩:=id hx;obtain ⟨bB,qZ,lB,q8,Yk,GY,Ye,H8,rfl,NB,PZ⟩:=id hy;obtain ⟨s1,s2⟩:=mQ.four h1;obtain ⟨s3,s4⟩:=mQ.four h2;have S1:sz 10000 p.num.natAbs≤549755813888:=zo;have S2:sz 10000 (p.den:Int).natAbs≤549755813888:=zo;have S3:sz 10000 q.num.natAbs≤549755813888:=zo;have S4:sz 10000 (q.den:Int).natAbs≤549755813888:=zo;have a1:=qc s1 s4;have a2:=qc s3 s2;have P1:sz 10000 (p.num*(q.den:Int)).natAbs≤549755813888:=by omega
 have P2:sz 10000 (q.num*(p.den:Int)).natAbs≤549755813888:=by omega
 have HO:=fun x y W h k=>aK.Gt x y (p.num*(q.den:Int)) (q.num*(p.den:Int)) W h k P1 P2;rw [aw9] at HO;generalize gZ p q=cc at *;refine Fx.door Tryz.func253 rfl (.nil w []) ?_;have B0:=Fx.Dn.nil w;refine Fx.new [] 2 #[ak bA,ah oV lA pJ,ak I9,ah tu IK tV] 181 [] [] fun iB=>?_;refine Fx.new [] 3 #[ak bB,ah qZ lB q8,ak Yk,ah GY Ye H8] 181 [] [] fun jX=>?_;refine Fx.draw [] [0,1,2,3,5,6,7,8,4,9,10,5011] [] [] [] ?_;refine Fx.iP [3,4,4,3] 9 [(11,aB #[ak bB,ah qZ lB q8]),(13,aB #[ak I9,ah tu IK tV])] [] (fun W M=>aK.mI _ _ _ _ _ (NA.later (B0.at M)) (PZ.later (B0.at M)) S1 S4) ?_;rintro W w3 e M ⟨v1,rfl,D3,Q1⟩;refine ⟨D3,fun M3=>?_⟩;have B3:=B0.next M3
 refine Fx.iP [] 14 [] [] (fun W M=>aK.mI _ _ _ _ _ (NB.later (B3.at M)) (Nz.later (B3.at M)) S3 S2) ?_;rintro W w4 e M ⟨v2,rfl,D4,Q2⟩;refine ⟨D4,fun M4=>?_⟩;replace Q1:=Q1.keep (M3.keep M4);have B4:=B3.next M4
 refine Fx.call [] 15 [] [] (fun W M=>HO _ _ _ (Q1.keep (M4.keep M)) (Q2.keep (M4.keep M))) ?_;exact Fx.Cn (v:=Z I cc) [] [] (fun W M=>by have HB:=(B4.at M);exact ⟨rfl,HB⟩)
end Go.Proofs.aS
namespace Go.Proofs.aK
open Go Go.RowKit Go.SW Go.Num Go.Mem Go.Proofs Go.Dec
theorem OL {d:List UInt8} {neg:Bool} (h:d.length<1∨600<d.length):gT d neg=false:=by
 unfold gT
 rcases h with h|h
 ·have:d=[]:=List.length_eq_zero_iff.1 zo;subst this;rfl
 ·have:decide (d.length≤600)=false:=by simp;omega
  simp [this]
theorem JN {d:List UInt8} {neg:Bool} {b:UInt8} (h:b∈d) (hb:b.toNat<48∨57<b.toNat):gT d neg=false:=by
 cases hk:gT d neg with
 | false=>rfl
 | true=>have:=rG hk b h;omega
theorem Vt {d:List UInt8} {neg:Bool} (h1:1≤d.length) (h2:d.length≤600) (h:∀ b∈d,48≤b.toNat∧b.toNat≤57):gT d neg= !(d.head? == some 48&&(neg || decide (1<d.length))):=by
 unfold gT;have e1:decide (d≠[])=true:=by simp;intro h;subst h;simp at h1
 have e2:d.all (fun b=>decide (48≤b.toNat)&&decide (b.toNat≤57))=true:=by
  rw [dI];intro b hb;have:=h b hb;simp [this.1,this.2]
 rw [e1,e2,decide_eq_true h2];simp
theorem Oh (bs:List UInt8):(whole bs).isSome=gT (cut bs).1 (cut bs).2:=by
 unfold whole;cases gT (cut bs).1 (cut bs).2<;>rfl
theorem o8 {s:ByteArray} {i f:Nat} (hf:f≤i) (hi:i<s.size):s[i]∈s.data.toList.drop f:=by
 have h:s.data.toList[i]? =some s[i]:=List.getElem?_eq_getElem (by exact hi);rw [List.mem_iff_getElem?];exact ⟨i - f,by rw [jw,show f+(i - f)=i by omega];exact h⟩
theorem Gp (s:ByteArray) (w:World) (hs:s.size≤4611686018427387904) :
  Calls Tryz.prog 186 #[O s] w (fun e w'=>e= aj (ak (whole s.data.toList).isSome)∧w=w'):=by
 rw [Oh];have hsz:s.data.toList.length=s.size:=rfl
 by_cases h0:s.size=0
 ·have e:s.data.toList=[]:=List.length_eq_zero_iff.1 (by rw [hsz,h0]);rw [e,OL (.inl (by unfold Dec.cut;simp))];have hs0:(s.size:Int)=0:=by omega
  clear hs hsz e;go_enter Tryz.func186,Tryz.ntmps186
  go_wp2
  go_ret
  exact ⟨rfl,rfl⟩
 ·have hs0:0<s.size:=by omega
  have hd0:s.data.toList[0]? =some s[0]:=List.getElem?_eq_getElem (by exact hs0);have hhd:s.data.toList.head? =some s[0]:=by rw [List.head?_eq_getElem?];exact hd0
  obtain ⟨d,Ed⟩:∃ d,(Dec.cut s.data.toList).1=d:=⟨_,rfl⟩;obtain ⟨ng,En⟩:∃ ng,(Dec.cut s.data.toList).2=ng:=⟨_,rfl⟩;rw [Ed,En]
  by_cases h45:s[0]=45
  ·have hC:d=s.data.toList.drop 1∧ng=true:=by
    unfold Dec.cut at Ed En;rw [if_pos (by rw [hhd,h45])] at Ed En;exact ⟨by rw [← Ed,List.drop_one],En.symm⟩
   obtain ⟨hd,ZL⟩:=hC;subst ZL
   have hq:((s[0].toNat:Int) == 45)=true:=by
    rw [h45];rfl
   have hdl:d.length=s.size - 1:=by rw [hd,List.length_drop,hsz]
   have HD:=zh hd;clear hd Ed En hhd hd0 h45
   by_cases hbad:s.size - 1<1∨600<s.size - 1
   ·rw [OL (by rw [hdl];exact hbad)];have hb1:(s.size:Int) - 1<1∨(600:Int)<(s.size:Int) - 1:=by omega
    clear hsz hdl
    rcases hb1 with hb1|hb1
    ·go_enter Tryz.func186,Tryz.ntmps186
     go_wp2
     all_goals (go_ret;exact ⟨rfl,rfl⟩)
    ·have hb2:¬ (s.size:Int) - 1<1:=by omega
     go_enter Tryz.func186,Tryz.ntmps186
     go_wp2
     go_ret
     exact ⟨rfl,rfl⟩
   ·have hb1:¬ (s.size:Int) - 1<1:=by omega
    have hb2:¬ (600:Int)<(s.size:Int) - 1:=by omega
    have Ie:=zh hdl;obtain ⟨R,ER⟩:∃ R,Hid (gT d true=R):=⟨_,zh rfl⟩;rw [ER.out];clear hsz hdl hbad;go_enter Tryz.func186,Tryz.ntmps186
    go_wp2
    go_loop [5] (fun iv=>∃ i:Nat,1≤i∧i≤s.size∧iv= Z I i∧Hid (∀ j (h:j<s.size),1≤j→j<i→48≤s[j].toNat∧s[j].toNat≤57)) (fun iv=>s.size - (intOf iv).toNat)
    case atStart=>exact ⟨1,aC _,by omega,rfl,zh fun j h h1 h2=>absurd h2 zo⟩
    case round =>
     obtain ⟨i,hi1,hi2,rfl,HK⟩:=hrel
     by_cases his:i<s.size
     ·by_cases hlo:s[i].toNat<48
      ·have q1:(s[i].toNat:Int)<48:=by omega
       have HR:Hid (R=false):=zh (by rw [← ER.out];exact JN (by rw [HD.out];exact o8 hi1 his) (.inl hlo));clear hlo
       go_wp2
       go_ret
       exact ⟨by rw [HR.out];rfl,rfl⟩
      ·by_cases hhi:57<s[i].toNat
       ·have q1:¬ (s[i].toNat:Int)<48:=by omega
        have q2:(57:Int)<(s[i].toNat:Int):=by omega
        have HR:Hid (R=false):=zh (by rw [← ER.out];exact JN (by rw [HD.out];exact o8 hi1 his) (.inr hhi));clear hlo hhi
        go_wp2
        go_ret
        exact ⟨by rw [HR.out];rfl,rfl⟩
       ·have q1:¬ (s[i].toNat:Int)<48:=by omega
        have q2:¬ (57:Int)<(s[i].toNat:Int):=by omega
        have HK2:Hid (∀ j (h:j<s.size),1≤j→j<i+1→48≤s[j].toNat∧s[j].toNat≤57):=zh fun j h h1 h2=>by
         by_cases hji:j<i
         ·exact HK.out j h h1 hji
         ·obtain rfl:j=i:=by omega
          omega
        clear hlo hhi
        go_wp2
        go_round
        case rel=>exact ⟨i+1,by omega,by omega,by go_num,HK2⟩
        case measure=>exact zM
     ·have hie:i=s.size:=by omega
      subst hie;have hF:1<s.size:=by omega
      have hall:gT d true= !(d.head? == some 48&&(true || decide (1<d.length))):=Vt (by rw [Ie.out];omega) (by rw [Ie.out];omega) fun b hb=>by
       rw [HD.out] at hb;obtain ⟨j,hj,rfl⟩:=List.getElem_of_mem hb;rw [List.length_drop] at hj
       have hj2:j+1<s.size:=by
        have:s.data.toList.length=s.size:=rfl;omega
       have:=HK.out (j+1) hj2 zo zo;rw [List.getElem_drop]
       have e:s.data.toList[1+j]'(by have:s.data.toList.length=s.size:=rfl;omega)=s[j+1]:=by
        simp only [iH 1 j];rfl
       rw [e];exact this
      have hh:d.head? =some s[1]:=by
       rw [HD.out,List.head?_eq_getElem?, jw];exact List.getElem?_eq_getElem (by exact hF)
      rw [hh,Ie.out,ER.out] at hall;clear hh HK
      by_cases h48:s[1]=48
      ·have q3:((s[1].toNat:Int) == 48)=true:=by rw [h48];rfl
       have q4:((s[1].toNat:Int) != 48)=false:=by rw [h48];rfl
       have q5:((s.size:Int) == 1)=false:=by simp;omega
       have HR:Hid (R=false):=zh (by rw [hall,h48];rfl);clear h48 hall
       go_wp2
       go_ret
       exact ⟨by rw [HR.out];rfl,rfl⟩
      ·have q3:((s[1].toNat:Int) == 48)=false:=by
        rw [beq_eq_false_iff_ne];intro h
        exact h48 (UInt8.toNat_inj.1 (by
         have:s[1].toNat=48:=by omega
         rw [this];rfl))
       have q4:((s[1].toNat:Int) != 48)=true:=by rw [bne,q3];rfl
       have q5:(some s[1] == some (48:UInt8))=false:=by
        rw [beq_eq_false_iff_ne];intro h;exact h48 (Option.some.inj h)
       have HR:Hid (R=true):=zh (by rw [hall,q5];rfl);clear h48 q5 hall
       go_wp2
       go_ret
       exact ⟨by rw [HR.out];rfl,rfl⟩
  ·have hC:d=s.data.toList.drop 0∧ng=false:=by
    unfold Dec.cut at Ed En;rw [if_neg (by rw [hhd];intro h;exact h45 (Option.some.inj h))] at Ed En;exact ⟨by rw [← Ed];rfl,En.symm⟩
   obtain ⟨hd,ZL⟩:=hC;subst ZL
   have hq:((s[0].toNat:Int) == 45)=false:=by
    rw [beq_eq_false_iff_ne];intro h
    exact h45 (UInt8.toNat_inj.1 (by
     have:s[0].toNat=45:=by omega
     rw [this];rfl))
   have hdl:d.length=s.size - 0:=by rw [hd,List.length_drop,hsz]
   have HD:=zh hd;clear hd Ed En hhd hd0 h45
   by_cases hbad:s.size - 0<1∨600<s.size - 0
   ·rw [OL (by rw [hdl];exact hbad)];have hb1:(s.size:Int) - 0<1∨(600:Int)<(s.size:Int) - 0:=by omega
    clear hsz hdl
    rcases hb1 with hb1|hb1
    ·go_enter Tryz.func186,Tryz.ntmps186
     go_wp2
     all_goals (go_ret;exact ⟨rfl,rfl⟩)
    ·have hb2:¬ (s.size:Int) - 0<1:=by omega
     go_enter Tryz.func186,Tryz.ntmps186
     go_wp2
     go_ret
     exact ⟨rfl,rfl⟩
   ·have hb1:¬ (s.size:Int) - 0<1:=by omega
    have hb2:¬ (600:Int)<(s.size:Int) - 0:=by omega
    have Ie:=zh hdl;obtain ⟨R,ER⟩:∃ R,Hid (gT d false=R):=⟨_,zh rfl⟩;rw [ER.out];clear hsz hdl hbad;go_enter Tryz.func186,Tryz.ntmps186
    go_wp2
    go_loop [5] (fun iv=>∃ i:Nat,0≤i∧i≤s.size∧iv= Z I i∧Hid (∀ j (h:j<s.size),0≤j→j<i→48≤s[j].toNat∧s[j].toNat≤57)) (fun iv=>s.size - (intOf iv).toNat)
    case atStart=>exact ⟨0,aC _,by omega,rfl,zh fun j h h1 h2=>absurd h2 zo⟩
    case round =>
     obtain ⟨i,hi1,hi2,rfl,HK⟩:=hrel
     by_cases his:i<s.size
     ·by_cases hlo:s[i].toNat<48
      ·have q1:(s[i].toNat:Int)<48:=by omega
       have HR:Hid (R=false):=zh (by rw [← ER.out];exact JN (by rw [HD.out];exact o8 hi1 his) (.inl hlo));clear hlo
       go_wp2
       go_ret
       exact ⟨by rw [HR.out];rfl,rfl⟩
      ·by_cases hhi:57<s[i].toNat
       ·have q1:¬ (s[i].toNat:Int)<48:=by omega
        have q2:(57:Int)<(s[i].toNat:Int):=by omega
        have HR:Hid (R=false):=zh (by rw [← ER.out];exact JN (by rw [HD.out];exact o8 hi1 his) (.inr hhi));clear hlo hhi
        go_wp2
        go_ret
        exact ⟨by rw [HR.out];rfl,rfl⟩
       ·have q1:¬ (s[i].toNat:Int)<48:=by omega
        have q2:¬ (57:Int)<(s[i].toNat:Int):=by omega
        have HK2:Hid (∀ j (h:j<s.size),0≤j→j<i+1→48≤s[j].toNat∧s[j].toNat≤57):=zh fun j h h1 h2=>by
         by_cases hji:j<i
         ·exact HK.out j h h1 hji
         ·obtain rfl:j=i:=by omega
          omega
        clear hlo hhi
        go_wp2
        go_round
        case rel=>exact ⟨i+1,by omega,by omega,by go_num,HK2⟩
        case measure=>exact zM
     ·have hie:i=s.size:=by omega
      subst hie;have hF:0<s.size:=by omega
      have hall:gT d false= !(d.head? == some 48&&(false || decide (1<d.length))):=Vt (by rw [Ie.out];omega) (by rw [Ie.out];omega) fun b hb=>by
       rw [HD.out] at hb;obtain ⟨j,hj,rfl⟩:=List.getElem_of_mem hb;rw [List.length_drop] at hj
       have hj2:j+0<s.size:=by
        have:s.data.toList.length=s.size:=rfl;omega
       have:=HK.out (j+0) hj2 zo zo;rw [List.getElem_drop]
       have e:s.data.toList[0+j]'(by have:s.data.toList.length=s.size:=rfl;omega)=s[j+0]:=by
        simp only [iH 0 j];rfl
       rw [e];exact this
      have hh:d.head? =some s[0]:=by
       rw [HD.out,List.head?_eq_getElem?, jw];exact List.getElem?_eq_getElem (by exact hF)
      rw [hh,Ie.out,ER.out] at hall;clear hh HK
      by_cases h48:s[0]=48
      ·have q3:((s[0].toNat:Int) == 48)=true:=by rw [h48];rfl
       have q4:((s[0].toNat:Int) != 48)=false:=by rw [h48];rfl
       by_cases h1:s.size=1
       ·have q5:((s.size:Int) == 1)=true:=by simp;omega
        have HR:Hid (R=true):=zh (by rw [hall,h48,h1];rfl);clear h48 hall
        go_wp2
        go_ret
        exact ⟨by rw [HR.out];rfl,rfl⟩
       ·have q5:((s.size:Int) == 1)=false:=by simp;omega
        have q6:decide (1<s.size - 0)=true:=by simp;omega
        have HR:Hid (R=false):=zh (by rw [hall,h48,q6];rfl);clear h48 q6 hall
        go_wp2
        go_ret
        exact ⟨by rw [HR.out];rfl,rfl⟩
      ·have q3:((s[0].toNat:Int) == 48)=false:=by
        rw [beq_eq_false_iff_ne];intro h
        exact h48 (UInt8.toNat_inj.1 (by
         have:s[0].toNat=48:=by omega
         rw [this];rfl))
       have q4:((s[0].toNat:Int) != 48)=true:=by rw [bne,q3];rfl
       have q5:(some s[0] == some (48:UInt8))=false:=by
        rw [beq_eq_false_iff_ne];intro h;exact h48 (Option.some.inj h)
       have HR:Hid (R=true):=zh (by rw [hall,q5];rfl);clear h48 q5 hall
       go_wp2
       go_ret
       exact ⟨by rw [HR.out];rfl,rfl⟩
theorem nI {bs:List UInt8} {f:Nat} (hd:rA (bs.drop f)) {st i:Nat} (hf:f≤st) (h4:i - st≤4):num ((bs.take i).drop st)<10000:=by
 have h1:=Vz ((bs.take i).drop st) (fun b hb=>by
  refine hd b ?_
  have h:b∈(bs.take i).drop f:=by
   obtain ⟨j,hj,rfl⟩:=List.getElem_of_mem hb;rw [List.getElem_drop];have:(bs.take i).drop st=((bs.take i).drop f).drop (st - f):=by rw [List.drop_drop,show f+(st - f)=st by omega]
   rw [List.mem_iff_getElem?];refine ⟨st - f+j,?_⟩;rw [jw,show f+(st - f+j)=st+j by omega];exact List.getElem?_eq_getElem _
  rw [List.drop_take] at h;exact List.mem_of_mem_take h)
 have h2:(10:Nat)^((bs.take i).drop st).length≤10^4:=bW zo (by rw [List.length_drop,List.length_take];omega);omega
theorem qw {bs:List UInt8} {st i:Nat} {x:UInt8} (hst:st≤i) (hb:48≤x.toNat∧x.toNat≤57) (hx:bs[i]? =some x) :
  ((num ((bs.take i).drop st):Nat):Int)*10+((x.toNat:Int) - 48)=(num ((bs.take (i+1)).drop st):Nat):=by
 rw [vL hst hx,qN];omega
theorem Je (s:ByteArray) (z:Int) (w:World) (hz:whole s.data.toList=some z) :
  Calls Tryz.prog 187 #[O s] w (Gq w z):=by
 obtain ⟨i0,hi,hz0,hz1,hz2⟩:=info_parts wE;obtain ⟨bs,hbs⟩:∃ bs,s.data.toList=bs:=⟨_,rfl⟩;rw [hbs] at hz;have hn:bs.length=s.size:=by rw [← hbs];rfl
 have hok:gT (Dec.cut bs).1 (Dec.cut bs).2=true:=by
  unfold whole at hz;split at hz
  ·assumption
  ·cases hz
 have hzz:Dec.mk (num (Dec.cut bs).1) (Dec.cut bs).2=z:=by
  unfold whole at hz;rw [if_pos hok] at hz;exact Option.some.inj hz
 have hsz:s.size≤601:=by
  have h1:(Dec.cut bs).1.length≤600:=by
   unfold gT at hok;simp only [aF,decide_eq_true_eq] at hok;exact hok.1.1.2
  have h2:bs.length≤(Dec.cut bs).1.length+1:=by
   unfold Dec.cut;split
   ·simp;omega
   ·simp
  omega
 have hs0:0<s.size:=by
  rcases aY s.size with h|h
  ·have:bs=[]:=List.length_eq_zero_iff.1 zo;subst this;exact absurd hok (by simp [Dec.cut,gT])
  ·exact h
 have hhd:bs.head? =some s[0]:=by
  rw [List.head?_eq_getElem?, ← hbs];exact List.getElem?_eq_getElem (by exact hs0)
 obtain ⟨d,Ed⟩:∃ d,(Dec.cut bs).1=d:=⟨_,rfl⟩;obtain ⟨ng,En⟩:∃ ng,(Dec.cut bs).2=ng:=⟨_,rfl⟩;rw [Ed,En] at hok hzz;have HZ:Hid (iR (num d) ng=z):=zh hzz
 have hC:(d=bs.drop 1∧ng=true)∨(d=bs.drop 0∧ng=false):=by
  unfold Dec.cut at Ed En
  by_cases h:bs.head? =some 45
  ·rw [if_pos h] at Ed En;exact .inl ⟨by rw [← Ed,List.drop_one],En.symm⟩
  ·rw [if_neg h] at Ed En;exact .inr ⟨by rw [← Ed];rfl,En.symm⟩
 have h45:(ng=true→s[0]=45)∧(s[0]=45→ng=true):=by
  unfold Dec.cut at En
  constructor
  ·intro h
   by_cases h':bs.head? =some 45
   ·rw [hhd] at h';exact Option.some.inj h'
   ·rw [if_neg h'] at En;rw [← En] at h;cases h
  ·intro h;rw [if_pos (by rw [hhd,h])] at En;exact En.symm
 have h0:Below w.heap.size w (w.alloc (.cells #[ak false,ah none 0 0] 179)):=aI;have hx:=aA.new w #[ak false,ah none 0 0] 179;have RL:=zh hbs;have HN:=zh hn;clear hz hzz hhd Ed En hbs hn
 rcases hC with hC|hC
 ·obtain ⟨hd,ZL⟩:=hC;subst ZL;have HD:=zh hd;have hds:rA (bs.drop 1):=by rw [← hd];exact rG hok
  have hle:1<s.size:=by
   have h1:d≠[]:=fun e=>by rw [e] at hok;exact absurd hok (by simp [gT])
   have h2:0<d.length:=List.length_pos_iff.2 h1;rw [hd,List.length_drop,HN.out] at h2;omega
  have hq:((s[0].toNat:Int) == 45)=true:=by
   have:s[0]=45:=by have:=h45.1 rfl;exact this
   rw [this];rfl
  have BI:=zh hds;clear hd hds hok h45;go_enter Tryz.func187,Tryz.ntmps187
  go_wp2_with fail
  go_loopw [4,5,6,7] (fun dv ev _ _ wr=>∃ (q:Int) (ls:List Nat),ev= Z I q∧ -4≤q∧q≤s.size∧Hid ((1:Int)<q→(s.size:Int) - q=4*ls.length)∧Hid (ls.length≤s.size)∧Hid (fV 10000 ls)∧Hid (val 10000 ls=num (bs.drop (max q 1).toNat))∧wr.ownsRow (w.heap.size+1) 3 1 dv ls.length (ints ls) ∧
    Below (w.heap.size+1) (w.alloc (.cells #[ak false,ah none 0 0] 179)) wr) (fun _ ev _ _ _=>(intOf ev+4).toNat)
  case atStart=>exact ⟨s.size,[],rfl,by omega,by omega,zh (by intro h;simp),zh zi,zh fV.nil,zh (by rw [show (max (s.size:Int) 1).toNat=bs.length by rw [HN.out];omega,List.drop_length];simp [val,num]),World.ownsRow_nil _ _ _ _,Below.refl _ _⟩
  case round =>
   obtain ⟨q,ls,rfl,hq4,hqs,HE,HLL,Ie,HV,hown,hb⟩:=hrel
   by_cases hqf:q≤1
   ·have hv:val 10000 ls=num (bs.drop 1):=by rw [HV.out,show (max q 1).toNat=1 by omega]
    have hz:iR (val 10000 ls) true=z:=by rw [hv,← HD.out];exact HZ.out
    have h1:Bw w wr:=⟨hb.os,hb.tape,hb.output,au zi hb.size,fun i hi=>(hb.block i zo).trans (h0.block i hi)⟩;have zm:=hx.later (w':=wr) ⟨hb.os,hb.tape,hb.output,by have:=hb.size;simpa using this,fun i hi=>hb.block i (by simpa using hi)⟩;have cx:=zm.cell;have fx:=zm.free;have hg:=oN true u4 ls wr (Gs.gP hown) Ie.out;rw [hz] at hg;have HG:=zh hg;obtain ⟨pa,ca,rfl, -⟩:=(Gs.gP hown).read;clear hv hz hg hown HE HV hb;go_wp2_with fail
    refine HG.out.mono ?_;rintro e w' ⟨v',rfl,hb,hv⟩;obtain ⟨bNV,ao8,lNV,ax8,rfl⟩:=hv.agg;have NV:=zh hv;clear hv;have hy:=zm.later hb;clear cx fx;have cy:=hy.cell;have fy:=hy.free;go_wp2_with fail
    refine gG rfl rfl bq Tryz.underlying179 rfl zk ?_;exact ⟨_,rfl,aI,NV.out.set2 hy zd _ _ _ _⟩
   ·obtain ⟨e,rfl⟩:∃ e:Nat,q=(e:Int):=⟨q.toNat,by omega⟩;have hef:1<e:=by omega
    have aV6:(1:Int)<(e:Int):=by omega
    rcases Int.lt_or_le ((e:Int) - 4) 1 with h4|h4
    ·have hst':(e:Int) - 4<1:=by omega
     have O8:max ((e:Int) - 4) 1=1:=by omega
     have hgl:=nI (bs:=bs) (f:=1) BI.out (aC _) (i:=e) zo;have HE2:Hid ((s.size:Int) - e=4*ls.length):=zh (HE.out zo);clear HE;go_wp2_with fail
     obtain ⟨wo,rfl⟩:∃ wo:World,wo=wr:=⟨_,rfl⟩
     go_loopw [6,7] (fun v6 v7 wi=>∃ i:Nat,v7= Z I (i:Int)∧1≤i∧i≤e∧Hid (v6= Z I (num ((bs.take i).drop 1):Nat))∧wo=wi) (fun _ v7 _=>e - (intOf v7).toNat)
     case atStart=>exact ⟨1,rfl,aC _,by omega,zh (by rw [List.drop_eq_nil_of_le (by rw [List.length_take];omega)];rfl),rfl⟩
     case round =>
      obtain ⟨i,rfl,hi1,hi2,H6,rfl⟩:=hrel;have e6:=H6.out;subst e6
      rcases aH i e with hie|hie
      ·have his:i<s.size:=by omega
       have hx2:bs[i]? =some s[i]:=by rw [← RL.out];exact List.getElem?_eq_getElem (by exact his)
       have hdi:=BI.out s[i] (by rw [← RL.out];exact o8 zo his);have HS:=zh (qw (bs:=bs) (st:=1) (x:=s[i]) hi1 hdi hx2);have hgb:=nI (bs:=bs) (f:=1) BI.out (aC _) (i:=i) zo;generalize num ((bs.take i).drop 1)=g at *;go_wp2_with fail
       exact ⟨⟨i+1,rfl,by omega,by omega,zh (by rw [← HS.out]),trivial⟩,by simp only [intOf];omega⟩
      ·have hie:i=e:=by omega
       subst hie;have HG:=zh (qA (bs:=bs) (s:=1) (e:=i) zo (by have:=HN.out;omega));have hlen:bs.length - i=4*ls.length:=by have:=HE2.out;have:=HN.out;omega
       have hmx:(max (i:Int) 1).toNat=i:=by omega
       have hv0:=HV.out;rw [hmx] at hv0;rw [hlen,Nat.pow_mul,← hv0] at HG;generalize num ((bs.take i).drop 1)=gv at *;have hll:ls.length+1≤s.size:=by have:=HE2.out;omega
       have ec:ints ls++[Z I (gv:Int)]=ints (ls++[gv]):=by unfold ints;simp only [List.map_append,bH,gM]
       have EC:=zh ec;clear H6 ec;go_wp2_with (at_builtin;refine wpList_append_own _ rfl (.tmp 35) (.tmp 37) 167 rfl (w.heap.size+1) 3 i0 (Z I 0) 1 8 Tryz.underlying167 hi hz0 hz1 hz2 rfl zd _ _ _ rfl (hown.alloc _) ⟨wo.heap.size,0,none⟩ 1 1 [Z I (gv:Int)] rfl rfl (by intro t u ht;match t,ht with|0,ht=>simp at ht;subst ht;simp [Addr.add]) (by intro u hu;simp at hu;subst hu;rfl) (by unfold maxLen;omega) zo (by have:=hb.size;simp at*; omega) ?_)
       intro v' w1 hown1 hgrow1 _;rw [EC.out] at hown1;have hb3:Below (w.heap.size+1) (w.alloc (.cells #[ak false,ah none 0 0] 179)) w1:=(hb.alloc (by have:=hb.size;simpa using this) _).grown hgrow1 (by simp;have:=hb.size;simp at*; omega) (fun k hk=>(hown.lt k hk).1)
       have Ci:Hid (val 10000 (ls++[gv])=num (bs.drop (max ((i:Int) - 4) 1).toNat)):=by
        unfold Hid;rw [show (max ((i:Int) - 4) 1).toNat=1 by omega,jy,HG.out,iH,aJ]
       clear hown hgrow1 hst' O8;go_wp2_with fail
       refine ⟨⟨(i:Int) - 4,ls++[gv],rfl,by omega,by omega,zh (fun h=>?_),zh (by rw [List.length_append];exact hll),zh (Ie.out.snoc hgl),Ci,by rw [List.length_append];exact hown1,hb3⟩,?_⟩
       ·have:=HE2.out;rw [List.length_append,List.length_singleton];omega
       ·simp only [intOf];omega
    ·obtain ⟨f,rfl⟩:∃ f,e=f+4:=⟨e - 4,by omega⟩;have s1:1≤f:=by omega
     have hst':¬ (f:Int)<1:=by omega
     have O8:max (f:Int) 1=(f:Int):=by omega
     have hgl:=nI (bs:=bs) (f:=1) BI.out s1 (i:=f+4) zo;have HE2:Hid ((s.size:Int) - ((f+4:Nat):Int)=4*ls.length):=zh (HE.out zo);clear HE;go_wp2_with fail
     obtain ⟨wo,rfl⟩:∃ wo:World,wo=wr:=⟨_,rfl⟩
     go_loopw [6,7] (fun v6 v7 wi=>∃ i:Nat,v7= Z I (i:Int)∧f≤i∧i≤f+4∧Hid (v6= Z I (num ((bs.take i).drop f):Nat))∧wo=wi) (fun _ v7 _=>f+4 - (intOf v7).toNat)
     case atStart=>exact ⟨f,rfl,aC _,by omega,zh (by rw [List.drop_eq_nil_of_le (by rw [List.length_take];omega)];rfl),rfl⟩
     case round =>
      obtain ⟨i,rfl,hi1,hi2,H6,rfl⟩:=hrel;have e6:=H6.out;subst e6
      rcases aH i (f+4) with hie|hie
      ·have his:i<s.size:=by omega
       have hx2:bs[i]? =some s[i]:=by rw [← RL.out];exact List.getElem?_eq_getElem (by exact his)
       have hdi:=BI.out s[i] (by rw [← RL.out];exact o8 zo his);have HS:=zh (qw (bs:=bs) (st:=f) (x:=s[i]) hi1 hdi hx2);have hgb:=nI (bs:=bs) (f:=1) BI.out s1 (i:=i) zo;generalize num ((bs.take i).drop f)=g at *;go_wp2_with fail
       exact ⟨⟨i+1,rfl,by omega,by omega,zh (by rw [← HS.out]),trivial⟩,by simp only [intOf];omega⟩
      ·obtain rfl:i=f+4:=by omega
       have HG:=zh (qA (bs:=bs) (s:=f) (e:=f+4) zo (by have:=HN.out;omega));have hlen:bs.length - (f+4)=4*ls.length:=by have:=HE2.out;have:=HN.out;omega
       have hmx:(max ((f+4:Nat):Int) 1).toNat=f+4:=by omega
       have hv0:=HV.out;rw [hmx] at hv0;rw [hlen,Nat.pow_mul,← hv0] at HG;generalize num ((bs.take (f+4)).drop f)=gv at *;have hll:ls.length+1≤s.size:=by have:=HE2.out;omega
       have ec:ints ls++[Z I (gv:Int)]=ints (ls++[gv]):=by unfold ints;simp only [List.map_append,bH,gM]
       have EC:=zh ec;clear H6 ec;go_wp2_with (at_builtin;refine wpList_append_own _ rfl (.tmp 35) (.tmp 37) 167 rfl (w.heap.size+1) 3 i0 (Z I 0) 1 8 Tryz.underlying167 hi hz0 hz1 hz2 rfl zd _ _ _ rfl (hown.alloc _) ⟨wo.heap.size,0,none⟩ 1 1 [Z I (gv:Int)] rfl rfl (by intro t u ht;match t,ht with|0,ht=>simp at ht;subst ht;simp [Addr.add]) (by intro u hu;simp at hu;subst hu;rfl) (by unfold maxLen;omega) zo (by have:=hb.size;simp at*; omega) ?_)
       intro v' w1 hown1 hgrow1 _;rw [EC.out] at hown1;have hb3:Below (w.heap.size+1) (w.alloc (.cells #[ak false,ah none 0 0] 179)) w1:=(hb.alloc (by have:=hb.size;simpa using this) _).grown hgrow1 (by simp;have:=hb.size;simp at*; omega) (fun k hk=>(hown.lt k hk).1)
       have Ci:Hid (val 10000 (ls++[gv])=num (bs.drop (max (f:Int) 1).toNat)):=by
        unfold Hid;rw [show (max (f:Int) 1).toNat=f by omega,jy,HG.out,iH,aJ]
       clear hown hgrow1 hst' O8;go_wp2_with fail
       refine ⟨⟨(f:Int),ls++[gv],rfl,by omega,by omega,zh (fun h=>?_),zh (by rw [List.length_append];exact hll),zh (Ie.out.snoc hgl),Ci,by rw [List.length_append];exact hown1,hb3⟩,?_⟩
       ·have:=HE2.out;rw [List.length_append,List.length_singleton];omega
       ·simp only [intOf];omega
 ·obtain ⟨hd,ZL⟩:=hC;subst ZL;have HD:=zh hd;have hds:rA (bs.drop 0):=by rw [← hd];exact rG hok
  have hle:0<s.size:=by
   have h1:d≠[]:=fun e=>by rw [e] at hok;exact absurd hok (by simp [gT])
   have h2:0<d.length:=List.length_pos_iff.2 h1;rw [hd,List.length_drop,HN.out] at h2;omega
  have hq:((s[0].toNat:Int) == 45)=false:=by
   have h:s[0]≠45:=fun e=>by have:=h45.2 e;cases this
   rw [beq_eq_false_iff_ne];intro h2
   exact h (UInt8.toNat_inj.1 (by
    have:s[0].toNat=45:=by omega
    rw [this];rfl))
  have BI:=zh hds;clear hd hds hok h45;go_enter Tryz.func187,Tryz.ntmps187
  go_wp2_with fail
  go_loopw [4,5,6,7] (fun dv ev _ _ wr=>∃ (q:Int) (ls:List Nat),ev= Z I q∧ -4≤q∧q≤s.size∧Hid ((0:Int)<q→(s.size:Int) - q=4*ls.length)∧Hid (ls.length≤s.size)∧Hid (fV 10000 ls)∧Hid (val 10000 ls=num (bs.drop (max q 0).toNat))∧wr.ownsRow (w.heap.size+1) 3 1 dv ls.length (ints ls) ∧
    Below (w.heap.size+1) (w.alloc (.cells #[ak false,ah none 0 0] 179)) wr) (fun _ ev _ _ _=>(intOf ev+4).toNat)
  case atStart=>exact ⟨s.size,[],rfl,by omega,by omega,zh (by intro h;simp),zh zi,zh fV.nil,zh (by rw [show (max (s.size:Int) 0).toNat=bs.length by rw [HN.out];omega,List.drop_length];simp [val,num]),World.ownsRow_nil _ _ _ _,Below.refl _ _⟩
  case round =>
   obtain ⟨q,ls,rfl,hq4,hqs,HE,HLL,Ie,HV,hown,hb⟩:=hrel
   by_cases hqf:q≤0
   ·have hv:val 10000 ls=num (bs.drop 0):=by rw [HV.out,show (max q 0).toNat=0 by omega]
    have hz:iR (val 10000 ls) false=z:=by rw [hv,← HD.out];exact HZ.out
    have h1:Bw w wr:=⟨hb.os,hb.tape,hb.output,au zi hb.size,fun i hi=>(hb.block i zo).trans (h0.block i hi)⟩;have zm:=hx.later (w':=wr) ⟨hb.os,hb.tape,hb.output,by have:=hb.size;simpa using this,fun i hi=>hb.block i (by simpa using hi)⟩;have cx:=zm.cell;have fx:=zm.free;have hg:=oN false u4 ls wr (Gs.gP hown) Ie.out;rw [hz] at hg;have HG:=zh hg;obtain ⟨pa,ca,rfl, -⟩:=(Gs.gP hown).read;clear hv hz hg hown HE HV hb;go_wp2_with fail
    refine HG.out.mono ?_;rintro e w' ⟨v',rfl,hb,hv⟩;obtain ⟨bNV,ao8,lNV,ax8,rfl⟩:=hv.agg;have NV:=zh hv;clear hv;have hy:=zm.later hb;clear cx fx;have cy:=hy.cell;have fy:=hy.free;go_wp2_with fail
    refine gG rfl rfl bq Tryz.underlying179 rfl zk ?_;exact ⟨_,rfl,aI,NV.out.set2 hy zd _ _ _ _⟩
   ·obtain ⟨e,rfl⟩:∃ e:Nat,q=(e:Int):=⟨q.toNat,by omega⟩;have hef:0<e:=by omega
    have aV6:(0:Int)<(e:Int):=by omega
    rcases Int.lt_or_le ((e:Int) - 4) 0 with h4|h4
    ·have hst':(e:Int) - 4<0:=by omega
     have O8:max ((e:Int) - 4) 0=0:=by omega
     have hgl:=nI (bs:=bs) (f:=0) BI.out (aC _) (i:=e) zo;have HE2:Hid ((s.size:Int) - e=4*ls.length):=zh (HE.out zo);clear HE;go_wp2_with fail
     obtain ⟨wo,rfl⟩:∃ wo:World,wo=wr:=⟨_,rfl⟩
     go_loopw [6,7] (fun v6 v7 wi=>∃ i:Nat,v7= Z I (i:Int)∧0≤i∧i≤e∧Hid (v6= Z I (num ((bs.take i).drop 0):Nat))∧wo=wi) (fun _ v7 _=>e - (intOf v7).toNat)
     case atStart=>exact ⟨0,rfl,aC _,by omega,zh (by rw [List.drop_eq_nil_of_le (by rw [List.length_take];omega)];rfl),rfl⟩
     case round =>
      obtain ⟨i,rfl,hi1,hi2,H6,rfl⟩:=hrel;have e6:=H6.out;subst e6
      rcases aH i e with hie|hie
      ·have his:i<s.size:=by omega
       have hx2:bs[i]? =some s[i]:=by rw [← RL.out];exact List.getElem?_eq_getElem (by exact his)
       have hdi:=BI.out s[i] (by rw [← RL.out];exact o8 zo his);have HS:=zh (qw (bs:=bs) (st:=0) (x:=s[i]) hi1 hdi hx2);have hgb:=nI (bs:=bs) (f:=0) BI.out (aC _) (i:=i) zo;generalize num ((bs.take i).drop 0)=g at *;go_wp2_with fail
       exact ⟨⟨i+1,rfl,by omega,by omega,zh (by rw [← HS.out]),trivial⟩,by simp only [intOf];omega⟩
      ·have hie:i=e:=by omega
       subst hie;have HG:=zh (qA (bs:=bs) (s:=0) (e:=i) zo (by have:=HN.out;omega));have hlen:bs.length - i=4*ls.length:=by have:=HE2.out;have:=HN.out;omega
       have hmx:(max (i:Int) 0).toNat=i:=by omega
       have hv0:=HV.out;rw [hmx] at hv0;rw [hlen,Nat.pow_mul,← hv0] at HG;generalize num ((bs.take i).drop 0)=gv at *;have hll:ls.length+1≤s.size:=by have:=HE2.out;omega
       have ec:ints ls++[Z I (gv:Int)]=ints (ls++[gv]):=by unfold ints;simp only [List.map_append,bH,gM]
       have EC:=zh ec;clear H6 ec;go_wp2_with (at_builtin;refine wpList_append_own _ rfl (.tmp 35) (.tmp 37) 167 rfl (w.heap.size+1) 3 i0 (Z I 0) 1 8 Tryz.underlying167 hi hz0 hz1 hz2 rfl zd _ _ _ rfl (hown.alloc _) ⟨wo.heap.size,0,none⟩ 1 1 [Z I (gv:Int)] rfl rfl (by intro t u ht;match t,ht with|0,ht=>simp at ht;subst ht;simp [Addr.add]) (by intro u hu;simp at hu;subst hu;rfl) (by unfold maxLen;omega) zo (by have:=hb.size;simp at*; omega) ?_)
       intro v' w1 hown1 hgrow1 _;rw [EC.out] at hown1;have hb3:Below (w.heap.size+1) (w.alloc (.cells #[ak false,ah none 0 0] 179)) w1:=(hb.alloc (by have:=hb.size;simpa using this) _).grown hgrow1 (by simp;have:=hb.size;simp at*; omega) (fun k hk=>(hown.lt k hk).1)
       have Ci:Hid (val 10000 (ls++[gv])=num (bs.drop (max ((i:Int) - 4) 0).toNat)):=by
        unfold Hid;rw [show (max ((i:Int) - 4) 0).toNat=0 by omega,jy,HG.out,iH,aJ]
       clear hown hgrow1 hst' O8;go_wp2_with fail
       refine ⟨⟨(i:Int) - 4,ls++[gv],rfl,by omega,by omega,zh (fun h=>?_),zh (by rw [List.length_append];exact hll),zh (Ie.out.snoc hgl),Ci,by rw [List.length_append];exact hown1,hb3⟩,?_⟩
       ·have:=HE2.out;rw [List.length_append,List.length_singleton];omega
       ·simp only [intOf];omega
    ·obtain ⟨f,rfl⟩:∃ f,e=f+4:=⟨e - 4,by omega⟩;have s1:0≤f:=by omega
     have hst':¬ (f:Int)<0:=by omega
     have O8:max (f:Int) 0=(f:Int):=by omega
     have hgl:=nI (bs:=bs) (f:=0) BI.out s1 (i:=f+4) zo;have HE2:Hid ((s.size:Int) - ((f+4:Nat):Int)=4*ls.length):=zh (HE.out zo);clear HE;go_wp2_with fail
     obtain ⟨wo,rfl⟩:∃ wo:World,wo=wr:=⟨_,rfl⟩
     go_loopw [6,7] (fun v6 v7 wi=>∃ i:Nat,v7= Z I (i:Int)∧f≤i∧i≤f+4∧Hid (v6= Z I (num ((bs.take i).drop f):Nat))∧wo=wi) (fun _ v7 _=>f+4 - (intOf v7).toNat)
     case atStart=>exact ⟨f,rfl,aC _,by omega,zh (by rw [List.drop_eq_nil_of_le (by rw [List.length_take];omega)];rfl),rfl⟩
     case round =>
      obtain ⟨i,rfl,hi1,hi2,H6,rfl⟩:=hrel;have e6:=H6.out;subst e6
      rcases aH i (f+4) with hie|hie
      ·have his:i<s.size:=by omega
       have hx2:bs[i]? =some s[i]:=by rw [← RL.out];exact List.getElem?_eq_getElem (by exact his)
       have hdi:=BI.out s[i] (by rw [← RL.out];exact o8 zo his);have HS:=zh (qw (bs:=bs) (st:=f) (x:=s[i]) hi1 hdi hx2);have hgb:=nI (bs:=bs) (f:=0) BI.out s1 (i:=i) zo;generalize num ((bs.take i).drop f)=g at *;go_wp2_with fail
       exact ⟨⟨i+1,rfl,by omega,by omega,zh (by rw [← HS.out]),trivial⟩,by simp only [intOf];omega⟩
      ·obtain rfl:i=f+4:=by omega
       have HG:=zh (qA (bs:=bs) (s:=f) (e:=f+4) zo (by have:=HN.out;omega));have hlen:bs.length - (f+4)=4*ls.length:=by have:=HE2.out;have:=HN.out;omega
       have hmx:(max ((f+4:Nat):Int) 0).toNat=f+4:=by omega
       have hv0:=HV.out;rw [hmx] at hv0;rw [hlen,Nat.pow_mul,← hv0] at HG;generalize num ((bs.take (f+4)).drop f)=gv at *;have hll:ls.length+1≤s.size:=by have:=HE2.out;omega
       have ec:ints ls++[Z I (gv:Int)]=ints (ls++[gv]):=by unfold ints;simp only [List.map_append,bH,gM]
       have EC:=zh ec;clear H6 ec;go_wp2_with (at_builtin;refine wpList_append_own _ rfl (.tmp 35) (.tmp 37) 167 rfl (w.heap.size+1) 3 i0 (Z I 0) 1 8 Tryz.underlying167 hi hz0 hz1 hz2 rfl zd _ _ _ rfl (hown.alloc _) ⟨wo.heap.size,0,none⟩ 1 1 [Z I (gv:Int)] rfl rfl (by intro t u ht;match t,ht with|0,ht=>simp at ht;subst ht;simp [Addr.add]) (by intro u hu;simp at hu;subst hu;rfl) (by unfold maxLen;omega) zo (by have:=hb.size;simp at*; omega) ?_)
       intro v' w1 hown1 hgrow1 _;rw [EC.out] at hown1;have hb3:Below (w.heap.size+1) (w.alloc (.cells #[ak false,ah none 0 0] 179)) w1:=(hb.alloc (by have:=hb.size;simpa using this) _).grown hgrow1 (by simp;have:=hb.size;simp at*; omega) (fun k hk=>(hown.lt k hk).1)
       have Ci:Hid (val 10000 (ls++[gv])=num (bs.drop (max (f:Int) 0).toNat)):=by
        unfold Hid;rw [show (max (f:Int) 0).toNat=f by omega,jy,HG.out,iH,aJ]
       clear hown hgrow1 hst' O8;go_wp2_with fail
       refine ⟨⟨(f:Int),ls++[gv],rfl,by omega,by omega,zh (fun h=>?_),zh (by rw [List.length_append];exact hll),zh (Ie.out.snoc hgl),Ci,by rw [List.length_append];exact hown1,hb3⟩,?_⟩
       ·have:=HE2.out;rw [List.length_append,List.length_singleton];omega
       ·simp only [intOf];omega
end Go.Proofs.aK
namespace Go.Proofs.aS
open Go Go.RowKit Go.SW Go.Num Go.Mem Go.Proofs Go.Dec Go.Proofs.aK Go.fG
theorem Az {s:ByteArray} {b:Bool} (h:(whole s.data.toList).isSome=b) (hs:s.size≤4611686018427387904) (W:World) :
  Calls Tryz.prog 186 #[O s] W (fun e w'=>e= aj (ak b)∧Bw W w') :=
 (aK.Gp s W hs).mono fun _ _ h'=>⟨h ▸ h'.1,h'.2 ▸ Below.refl _ _⟩
def Fits (a:Fr):Prop:=a.n.size≤4611686018427387904∧a.d.size≤4611686018427387904
theorem Sm {s t:ByteArray} (h:whole s.data.toList=none):rd ⟨s,t⟩=none:=by unfold rd;simp only [h]
theorem Sn {s t:ByteArray} (h:whole t.data.toList=none):rd ⟨s,t⟩=none:=by
 unfold rd;simp only [h];cases whole s.data.toList<;>rfl
theorem ao3 {s t:ByteArray} {n d:Int} (h1:whole s.data.toList=some n) (h2:whole t.data.toList=some d):(rd ⟨s,t⟩).isSome=(decide (0<d)&&(Nat.gcd n.natAbs d.natAbs == 1)):=by
 unfold rd;simp only [h1,h2]
 by_cases h:0<d∧n.natAbs.Coprime d.natAbs
 ·rw [dif_pos h];rw [decide_eq_true h.1,show Nat.gcd n.natAbs d.natAbs=1 from h.2];rfl
 ·rw [dif_neg h];refine (Bool.eq_false_iff.2 fun e=>h ?_).symm;rw [aF,decide_eq_true_iff,beq_iff_eq] at e;exact e
theorem Dt {bs:List UInt8} {z:Int} (h:whole bs=some z):sz 10000 z.natAbs≤201:=by
 have h1:=ni (fJ.2 (oz h).2);have:=DI h1;omega
theorem LW:(Lib.itoa ((1:Nat):Int)).toArray=#[49]:=by decide+kernel
theorem toList_inj {a b:ByteArray} (h:a.toList=b.toList):a=b:=by
 rw [ByteArray.toList_eq,ByteArray.toList_eq] at h;exact F6 h
theorem Zi {g:Nat} (h:g≠1):((⟨(Lib.itoa (g:Int)).toArray⟩:ByteArray) == ⟨#[49]⟩)=false:=by
 rw [beq_toListBytes,beq_eq_false_iff_ne];intro e;have e:=toList_inj e;simp only [ByteArray.mk.injEq] at e;rw [← LW] at e;have:=zY (List.toArray_inj e);omega
theorem ar0:((⟨(Lib.itoa ((1:Nat):Int)).toArray⟩:ByteArray) == ⟨#[49]⟩)=true:=by rw [LW,beq_toListBytes];exact beq_self_eq_true _
theorem Gp (s t:ByteArray) (w:World) (h1:s.size≤4611686018427387904) (h2:t.size≤4611686018427387904) :
  Calls Tryz.prog 120 #[aB #[O s,O t]] w (fun e w'=>e= aj (ak (rd ⟨s,t⟩).isSome)∧Bw w w'):=by
 cases e1:whole s.data.toList with
 | none =>
  rw [Sm e1];have R1:=zh (fun W=>Az (b:=false) (by rw [e1];rfl) h1 W);clear e1 h1 h2;go_enter Tryz.func120,Tryz.ntmps120
  go_wp2_with fail
  refine (R1.out _).mono ?_;rintro e w1 ⟨rfl,hb⟩;go_wp2_with fail
  go_ret
  exact ⟨rfl,Bt aI hb⟩
 | some n =>
  have R1:=zh (fun W=>Az (b:=true) (by rw [e1];rfl) h1 W);cases e2:whole t.data.toList with
  | none =>
   rw [Sn e2];have R2:=zh (fun W=>Az (b:=false) (by rw [e2];rfl) h2 W);have h0:Below w.heap.size w (w.alloc (.cells #[O s,O t] 38)):=aI;have hx:=aA.new w #[O s,O t] 38;clear e1 h1 h2 e2;go_enter Tryz.func120,Tryz.ntmps120
   go_wp2_with fail
   refine (R1.out _).mono ?_;rintro e w1 ⟨rfl,hb⟩;have cx:=(hx.later hb).cell;have lx:=(hx.later hb).lt;go_wp2_with fail
   refine (R2.out _).mono ?_;rintro e w2 ⟨rfl,hb2⟩;go_wp2_with fail
   go_ret
   exact ⟨rfl,Bt (Bt h0 hb) hb2⟩
  | some d =>
   have R2:=zh (fun W=>Az (b:=true) (by rw [e2];rfl) h2 W);rw [ao3 e1 e2];have I1:=zh (fun W=>aK.Je s n W e1);have I2:=zh (fun W=>aK.Je t d W e2);have K1:=zh (au (Dt e1) (show 201≤274877906944 by omega));have K2:=zh (au (Dt e2) (show 201≤274877906944 by omega))
   have hg:0<d→sz 10000 ((Nat.gcd n.natAbs d.natAbs:Nat):Int).natAbs≤1073741824:=fun h=>by
    rw [Int.natAbs_natCast];have h3:=iJ (B:=10000) zo (Nat.le_of_dvd (by omega:0<d.natAbs) (Nat.gcd_dvd_right n.natAbs d.natAbs));have h4:=Dt e2;omega
   have DV:=zh (fun x y W hx hy=>zl x y n d W hx hy K1.out K2.out);generalize Nat.gcd n.natAbs d.natAbs=g at *
   rcases Int.lt_trichotomy d 0 with hd|hd|hd
   ·have HD:=zh hd;rw [decide_eq_false (show ¬ 0<d by omega),Bool.false_and];clear e1 e2 h1 h2 hg hd;go_enter Tryz.func120,Tryz.ntmps120
    go_wp2_with fail
    obtain ⟨vk,EW,hz,X1⟩:=Gc w #[O s,O t] 38;rw [EW];have hk2:=Bt (Below.refl _ _) hz;clear EW hz;refine (R1.out _).mono ?_;rintro e um ⟨rfl,hb3⟩;replace X1:=X1.bl hb3;have hk5:=Bt hk2 hb3;clear hk2;clear hb3;obtain ⟨qx,qo,sS⟩:=X1.clf;go_wp2_with fail
    clear qx qo sS;refine (R2.out _).mono ?_;rintro e Ij ⟨rfl,hb6⟩;replace X1:=X1.bl hb6;have Oa:=Bt hk5 hb6;clear hk5;clear hb6;go_wp2_with fail
    obtain ⟨qx,qo,sS⟩:=X1.clf;refine aO [(.pure,0),(.read,1),(.pure,3),(.read,4),(.ext,2),(.ext,5),(.alloc #[ak false,ah none 0 0] 179,6),(.alloc #[ak false,ah none 0 0] 179,7),(.fin,8),(.fin,9)] zk zk zR zP ?_;refine zV ?_;refine aL rfl rfl (fun K8 rJ J hJ=>?_);go_simp;have rH:Bw Ij K8:=aI;clear rJ;refine (I1.out _).mono ?_;rintro e xP ⟨v,rfl,lN,sw⟩;obtain ⟨bA,oV,lA,pJ,rfl⟩:=sw.agg;refine hJ _ _ lN ?_;clear hJ J;have tK:=Bt rH lN;clear rH lN sw;refine zV ?_;refine aL rfl rfl (fun RQ Pj J hJ=>?_);go_simp;have hh12:Bw Ij RQ:=Bt tK aI;clear Pj tK;refine (I2.out _).mono ?_;rintro e Yz ⟨v,rfl,Ah,hv⟩;obtain ⟨bB,qZ,lB,q8,rfl⟩:=hv.agg;have hb1:bB=true:=hv.nm.2.trans (decide_eq_true HD.out);subst hb1;refine hJ _ _ Ah ?_;clear hJ J;have FD:=Bt hh12 Ah
    clear hh12 Ah hv;refine zV ?_;refine dU rfl (fun vF aC9 Mx mq Ag FM kD=>?_);go_simp;replace kD:aA _ _ _ _:=kD;have FK:w.heap.size≤vF:=(by first|omega|exact au (Below.size (B:=w.heap.size) aI) mq);refine dU rfl (fun tX aC8 Cb mg Af wH nV=>?_);go_simp;replace nV:aA _ _ _ _:=nV;have FJ:w.heap.size≤tX:=(by first|omega|exact au (Below.size (B:=w.heap.size) aI) mg);replace kD:=aA.later kD Cb;have hne:vF≠tX:=fun h=>wH (by simp [h]);have hne2:tX≠vF:=fun h=>hne h.symm;refine cZ [_,_] rfl (fun GL FE=>?_);have FC:Bw Ij GL:=Bt FD aI;have hq0:=kD.later FE;have cq0:=hq0.cell;have Z5:=hq0.free;have hq1:=nV.later FE;have cq1:=hq1.cell;have fq1:=hq1.free;clear kD nV FE FD;clear qx qo sS
    go_wp2_with fail
    obtain ⟨Jj,EW⟩:∃ y,((((GL.setCell ⟨vF,0,none⟩ (ak bA)).setCell ⟨vF,1,none⟩ (ah oV lA pJ)).setCell ⟨tX,0,none⟩ (ak true)).setCell ⟨tX,1,none⟩ (ah qZ lB q8))=y:=⟨_,rfl⟩;have hz:Bw Ij Jj:=by rw [← EW];exact ((((FC.setCell mq _).setCell mq _).setCell mg _).setCell mg _)
    have X3:Hid (aA Jj tX #[ak true,ah qZ lB q8] 179):=zh (by rw [← EW];exact ((((hq1.setOther _ (by first|exact hne|exact hne2)).setOther _ (by first|exact hne|exact hne2)).set 0 _).set 1 _));rw [EW];clear EW hq0 cq0 Z5 hq1 cq1 fq1 FC;replace X1:=X1.bl hz;have S9:=Bt Oa hz;clear Oa;clear hz;clear Mx FM wH FK FJ Cb;have Wv:=mq;have Wu:=mg;clear mq mg Ag Af;go_wp2_with fail
    go_ret
    exact ⟨rfl,S9⟩
   ·have HD:=zh hd;rw [decide_eq_false (show ¬ 0<d by omega),Bool.false_and];clear e1 e2 h1 h2 hg hd;go_enter Tryz.func120,Tryz.ntmps120
    go_wp2_with fail
    obtain ⟨vk,EW,hz,X1⟩:=Gc w #[O s,O t] 38;rw [EW];have hk2:=Bt (Below.refl _ _) hz;clear EW hz;refine (R1.out _).mono ?_;rintro e um ⟨rfl,hb3⟩;replace X1:=X1.bl hb3;have hk5:=Bt hk2 hb3;clear hk2;clear hb3;obtain ⟨qx,qo,sS⟩:=X1.clf;go_wp2_with fail
    clear qx qo sS;refine (R2.out _).mono ?_;rintro e Ij ⟨rfl,hb6⟩;replace X1:=X1.bl hb6;have Oa:=Bt hk5 hb6;clear hk5;clear hb6;go_wp2_with fail
    obtain ⟨qx,qo,sS⟩:=X1.clf;refine aO [(.pure,0),(.read,1),(.pure,3),(.read,4),(.ext,2),(.ext,5),(.alloc #[ak false,ah none 0 0] 179,6),(.alloc #[ak false,ah none 0 0] 179,7),(.fin,8),(.fin,9)] zk zk zR zP ?_;refine zV ?_;refine aL rfl rfl (fun K8 rJ J hJ=>?_);go_simp;have rH:Bw Ij K8:=aI;clear rJ;refine (I1.out _).mono ?_;rintro e xP ⟨v,rfl,lN,sw⟩;obtain ⟨bA,oV,lA,pJ,rfl⟩:=sw.agg;refine hJ _ _ lN ?_;clear hJ J;have tK:=Bt rH lN;clear rH lN sw;refine zV ?_;refine aL rfl rfl (fun RQ Pj J hJ=>?_);go_simp;have hh12:Bw Ij RQ:=Bt tK aI;clear Pj tK;refine (I2.out _).mono ?_;rintro e Yz ⟨v,rfl,Ah,hv⟩;obtain ⟨bB,qZ,lB,q8,rfl⟩:=hv.agg;have hb1:bB=false:=hv.nm.2.trans (decide_eq_false (by have:=HD.out;omega));subst hb1;have hl0:lB=0:=hv.nm.1.aq5 (by have:=HD.out;omega)
    subst hl0;refine hJ _ _ Ah ?_;clear hJ J;have FD:=Bt hh12 Ah;clear hh12 Ah hv;refine zV ?_;refine dU rfl (fun vF aC9 Mx mq Ag FM kD=>?_);go_simp;replace kD:aA _ _ _ _:=kD;have FK:w.heap.size≤vF:=(by first|omega|exact au (Below.size (B:=w.heap.size) aI) mq);refine dU rfl (fun tX aC8 Cb mg Af wH nV=>?_);go_simp;replace nV:aA _ _ _ _:=nV;have FJ:w.heap.size≤tX:=(by first|omega|exact au (Below.size (B:=w.heap.size) aI) mg);replace kD:=aA.later kD Cb;have hne:vF≠tX:=fun h=>wH (by simp [h]);have hne2:tX≠vF:=fun h=>hne h.symm;refine cZ [_,_] rfl (fun GL FE=>?_);have FC:Bw Ij GL:=Bt FD aI;have hq0:=kD.later FE;have cq0:=hq0.cell;have Z5:=hq0.free
    have hq1:=nV.later FE;have cq1:=hq1.cell;have fq1:=hq1.free;clear kD nV FE FD;clear qx qo sS;go_wp2_with fail
    obtain ⟨Jj,EW⟩:∃ y,((((GL.setCell ⟨vF,0,none⟩ (ak bA)).setCell ⟨vF,1,none⟩ (ah oV lA pJ)).setCell ⟨tX,0,none⟩ (ak false)).setCell ⟨tX,1,none⟩ (ah qZ 0 q8))=y:=⟨_,rfl⟩;have hz:Bw Ij Jj:=by rw [← EW];exact ((((FC.setCell mq _).setCell mq _).setCell mg _).setCell mg _)
    have X3:Hid (aA Jj tX #[ak false,ah qZ 0 q8] 179):=zh (by rw [← EW];exact ((((hq1.setOther _ (by first|exact hne|exact hne2)).setOther _ (by first|exact hne|exact hne2)).set 0 _).set 1 _));rw [EW];clear EW hq0 cq0 Z5 hq1 cq1 fq1 FC;replace X1:=X1.bl hz;have S9:=Bt Oa hz;clear Oa;clear hz;clear Mx FM wH FK FJ Cb;have Wv:=mq;have Wu:=mg;clear mq mg Ag Af;go_wp2_with fail
    go_ret
    exact ⟨rfl,S9⟩
   ·have HD:=zh hd;have HG:=zh (hg hd);have TX:=zh (fun x W hx=>Rz x (g:Int) W hx HG.out);obtain ⟨b,hb⟩:∃ b,(decide (0<d)&&(g == 1))=b:=⟨_,rfl⟩
    have hT:((⟨(Lib.itoa (g:Int)).toArray⟩:ByteArray) == ⟨#[49]⟩)=b:=by
     rw [← hb,decide_eq_true hd,Bool.true_and]
     by_cases h:g=1
     ·rw [h];exact ar0
     ·rw [Zi h];exact (beq_eq_false_iff_ne.2 h).symm
    rw [hb];rw [beq_toListBytes,ByteArray.toList_eq (⟨#[49]⟩:ByteArray)] at hT;replace hT:((⟨(Lib.itoa (g:Int)).toArray⟩:ByteArray).toList == [49])=b:=hT;generalize (⟨(Lib.itoa (g:Int)).toArray⟩:ByteArray)=T at *;clear e1 e2 h1 h2 hg hd hb;go_enter Tryz.func120,Tryz.ntmps120
    go_wp2_with fail
    obtain ⟨vk,EW,hz,X1⟩:=Gc w #[O s,O t] 38;rw [EW];have hk2:=Bt (Below.refl _ _) hz;clear EW hz;refine (R1.out _).mono ?_;rintro e um ⟨rfl,hb3⟩;replace X1:=X1.bl hb3;have hk5:=Bt hk2 hb3;clear hk2;clear hb3;obtain ⟨qx,qo,sS⟩:=X1.clf;go_wp2_with fail
    clear qx qo sS;refine (R2.out _).mono ?_;rintro e Ij ⟨rfl,hb6⟩;replace X1:=X1.bl hb6;have Oa:=Bt hk5 hb6;clear hk5;clear hb6;go_wp2_with fail
    obtain ⟨qx,qo,sS⟩:=X1.clf;refine aO [(.pure,0),(.read,1),(.pure,3),(.read,4),(.ext,2),(.ext,5),(.alloc #[ak false,ah none 0 0] 179,6),(.alloc #[ak false,ah none 0 0] 179,7),(.fin,8),(.fin,9)] zk zk zR zP ?_;refine zV ?_;refine aL rfl rfl (fun K8 rJ J hJ=>?_);go_simp;have rH:Bw Ij K8:=aI;clear rJ;refine (I1.out _).mono ?_;rintro e xP ⟨v,rfl,lN,sw⟩;obtain ⟨bA,oV,lA,pJ,rfl⟩:=sw.agg;refine hJ _ _ lN ?_;clear hJ J;have tK:=Bt rH lN;have NA:=zh sw;clear rH lN sw;refine zV ?_;refine aL rfl rfl (fun RQ Pj J hJ=>?_);go_simp;have hh12:Bw Ij RQ:=Bt tK aI;replace NA:=zh (NA.out.later (show Bw xP RQ from aI));clear Pj tK;refine (I2.out _).mono ?_;rintro e Yz ⟨v,rfl,Ah,hv⟩;obtain ⟨bB,qZ,lB,q8,rfl⟩:=hv.agg
    have hb1:bB=false:=hv.nm.2.trans (decide_eq_false (by have:=HD.out;omega));subst hb1;have hl0:0<lB:=hv.nm.1.aq4 (by have:=HD.out;omega);refine hJ _ _ Ah ?_;clear hJ J;have FD:=Bt hh12 Ah;replace NA:=zh (NA.out.later Ah);have NB:=zh hv;clear hh12 Ah hv;refine zV ?_;refine dU rfl (fun vF aC9 Mx mq Ag FM kD=>?_);go_simp;replace kD:aA _ _ _ _:=kD;have FK:w.heap.size≤vF:=(by first|omega|exact au (Below.size (B:=w.heap.size) aI) mq);refine dU rfl (fun tX aC8 Cb mg Af wH nV=>?_);go_simp;replace nV:aA _ _ _ _:=nV;have FJ:w.heap.size≤tX:=(by first|omega|exact au (Below.size (B:=w.heap.size) aI) mg);replace kD:=aA.later kD Cb;have hne:vF≠tX:=fun h=>wH (by simp [h]);have hne2:tX≠vF:=fun h=>hne h.symm
    refine cZ [_,_] rfl (fun GL FE=>?_);replace NA:=zh (NA.out.later (show Bw Yz GL from aI));replace NB:=zh (NB.out.later (show Bw Yz GL from aI));have FC:Bw Ij GL:=Bt FD aI;have hq0:=kD.later FE;have cq0:=hq0.cell;have Z5:=hq0.free;have hq1:=nV.later FE;have cq1:=hq1.cell;have fq1:=hq1.free;clear kD nV FE FD;clear qx qo sS;go_wp2_with fail
    obtain ⟨Jj,EW⟩:∃ y,((((GL.setCell ⟨vF,0,none⟩ (ak bA)).setCell ⟨vF,1,none⟩ (ah oV lA pJ)).setCell ⟨tX,0,none⟩ (ak false)).setCell ⟨tX,1,none⟩ (ah qZ lB q8))=y:=⟨_,rfl⟩;have hz:Bw Ij Jj:=by rw [← EW];exact ((((FC.setCell mq _).setCell mq _).setCell mg _).setCell mg _)
    have X2:Hid (aA Jj vF #[ak bA,ah oV lA pJ] 179):=zh (by rw [← EW];exact ((((hq0.set 0 _).set 1 _).setOther _ (by first|exact hne|exact hne2)).setOther _ (by first|exact hne|exact hne2)));have X3:Hid (aA Jj tX #[ak false,ah qZ lB q8] 179):=zh (by rw [← EW];exact ((((hq1.setOther _ (by first|exact hne|exact hne2)).setOther _ (by first|exact hne|exact hne2)).set 0 _).set 1 _));have t:=((((NA.out.setOther hq0 zd 0 (ak bA)).setOther (hq0.set 0 _) zd 1 (ah oV lA pJ)).setOther ((hq1.setOther _ (by first|exact hne|exact hne2)).setOther _ (by first|exact hne|exact hne2)) zd 0 (ak false)).setOther (((hq1.setOther _ (by first|exact hne|exact hne2)).setOther _ (by first|exact hne|exact hne2)).set 0 _) zd 1 (ah qZ lB q8));rw [EW] at t;replace NA:=zh t;clear t
    have t:=((((NB.out.setOther hq0 zd 0 (ak bA)).setOther (hq0.set 0 _) zd 1 (ah oV lA pJ)).setOther ((hq1.setOther _ (by first|exact hne|exact hne2)).setOther _ (by first|exact hne|exact hne2)) zd 0 (ak false)).setOther (((hq1.setOther _ (by first|exact hne|exact hne2)).setOther _ (by first|exact hne|exact hne2)).set 0 _) zd 1 (ah qZ lB q8));rw [EW] at t;replace NB:=zh t;clear t;rw [EW];clear EW hq0 cq0 Z5 hq1 cq1 fq1 FC;replace X1:=X1.bl hz;have S9:=Bt Oa hz;clear Oa;clear hz;clear Mx FM wH FK FJ Cb;have Wv:=mq;have Wu:=mg;clear mq mg Ag Af;go_wp2_with fail
    refine (DV.out _ _ _ NA.out NB.out).mono ?_;rintro e an0 ⟨v,rfl,FI,O7⟩;obtain ⟨bC,paC,lC,caC,rfl⟩:=O7.agg;clear X1;replace X2:=X2.bl FI;replace X3:=X3.bl FI;replace NA:=zh (NA.out.later FI);replace NB:=zh (NB.out.later FI);have aG8:=Bt S9 FI;clear S9;have NC:=zh O7;clear FI O7;go_wp2_with fail
    refine (TX.out _ _ NC.out).mono ?_;rintro e be2 ⟨rfl,FH⟩;replace X2:=X2.bl FH;replace X3:=X3.bl FH;replace NA:=zh (NA.out.later FH);replace NB:=zh (NB.out.later FH);replace NC:=zh (NC.out.later FH);have aV3:=Bt aG8 FH;clear aG8;clear FH;go_wp2_with fail
    go_ret
    exact ⟨rfl,aV3⟩
theorem ku {a:Fr} {b:Bool} (h:(rd a).isSome=b) (hf:Fits a) (W:World):Calls Tryz.prog 120 #[a.v] W (fun e w'=>e= aj (ak b)∧Bw W w') :=
 h ▸ Gp a.n a.d W hf.1 hf.2
theorem kI (a:Fr) (w:World) (hf:Fits a):Calls Tryz.prog 180 #[a.v] w (fun e w'=>e= aj (Z I (Dk a))∧Bw w w'):=by
 unfold Dk;cases h:(rd a).isSome with
 | true =>
  have R:=fun W=>ku h hf W;refine Fx.door Tryz.func180 rfl (.nil w []) ?_;refine Fx.new [] 1 #[O a.n,O a.d] 38 [] [] fun iB=>?_;refine Fx.gX [3] 4 [] [] R ?_;exact Fx.Cn [2] [] (fun W M=>⟨rfl,M.below⟩)
 | false =>
  have R:=fun W=>ku h hf W;refine Fx.door Tryz.func180 rfl (.nil w []) ?_;refine Fx.new [] 1 #[O a.n,O a.d] 38 [] [] fun iB=>?_;refine Fx.gX [3] 4 [] [] R ?_;exact Fx.Cn [1] [] (fun W M=>⟨rfl,M.below⟩)
theorem U7 {s t:ByteArray} {q:Rat} (h:rd ⟨s,t⟩=some q):whole s.data.toList=some q.num∧whole t.data.toList=some (q.den:Int):=by
 unfold rd at h;split at h
 ·rename_i n d e1 e2;split at h
  ·rename_i hk;simp only [Option.some.injEq] at h;subst h;refine ⟨e1,e2.trans ?_⟩
   congr 1
   have:=hk.1
   show d=((d.natAbs:Nat):Int)
   omega
  ·cases h
 ·cases h
theorem Je (s t:ByteArray) (q:Rat) (w:World) (h:rd ⟨s,t⟩=some q):Calls Tryz.prog 123 #[aB #[O s,O t]] w (pU w q):=by
 obtain ⟨e1,e2⟩:=U7 h;have I1:=fun W=>(aK.Je s q.num W e1).mono fun _ _ q=>Sv q;have I2:=fun W=>(aK.Je t (q.den:Int) W e2).mono fun _ _ q=>Sv q;refine Fx.door Tryz.func123 rfl (.nil w []) ?_;have B0:=Fx.Dn.nil w;refine Fx.new [] 1 #[O s,O t] 38 [] [] fun iB=>?_;refine Fx.bK [] 2 181 [] [] fun jX=>?_;refine Fx.draw [] [0,1,3,4,2,5,6,7] [] [] [] ?_;refine Fx.iP [3,3] 5 [(7,O t)] [] (fun W M=>I1 _) ?_;rintro W w3 e M ⟨b1,p1,l1,c1,rfl,D3,Q1⟩;refine ⟨D3,fun M3=>?_⟩;have B3:=B0.next M3
 refine Fx.iP [] 8 [] [] (fun W M=>I2 _) ?_;rintro W w4 e M ⟨b2,p2,l2,c2,rfl,D4,Q2⟩;refine ⟨D4,fun M4=>?_⟩;replace Q1:=Q1.keep (M3.keep M4);have B4:=B3.next M4
 exact Fx.mU (cs:=#[ak b1,ah p1 l1 c1,ak b2,ah p2 l2 c2]) 1 jX [4] [(1,#[ak b1,ah p1 l1 c1,ak b2,ah p2 l2 c2])] (fun W M=>by have HB:=(B4.at M);exact ⟨_,rfl,HB,_,_,_,_,_,_,_,_,rfl,(Q1.keep (M4.keep M)),(Q2.keep (M4.keep M))⟩)
end Go.Proofs.aS
