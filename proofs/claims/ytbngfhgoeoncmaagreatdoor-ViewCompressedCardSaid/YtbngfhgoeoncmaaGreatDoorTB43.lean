/- Lemmas for the proof. No condition. -/
import Derived.Test.YtbngfhgoeoncmaaGreatDoorTB15
import Derived.Test.YtbngfhgoeoncmaaGreatDoorTB42
import Derived.Test.YtbngfhgoeoncmaaGreatDoorRows
import Derived.ProofKit
import Derived.LaidMore
import Derived.OpenShut
import Derived.Stop.Joined
import Derived.Stop.LaidErr
import Derived.Lib.LaidTab
import Derived.ChangeSame
import Derived.Laws.IdiomArrays
set_option linter.unusedVariables false
set_option linter.unusedSimpArgs false
set_option maxRecDepth 100000
set_option maxHeartbeats 16000000
open Array renaming getElem?_eq_none → bq
open Bool renaming and_eq_true → aD
open Go.Ending renaming returned → ah
open Go.IntKind renaming i64 → I
open Go.Value renaming agg → aB, bool → aC, int → Z, pointer → au, string → O, tuple → aF
open List renaming map_cons → bL, map_nil → uG, mem_append → Nv, range → bI, take_append_drop → gy
open List.cons renaming injEq → iM
open Nat renaming le_trans → ay, lt_or_ge → aH
open Prod.mk renaming injEq → dW
namespace Go.Proofs.YtbngfhgoeoncmaaGreatDoor
open Go Go.ChangeShapes Go.WideShapes Go.RowKit Go.Mem Go.Proofs
theorem chunks {α:Type} (c:Nat):∀ (n:Nat) (cs:List α),cs.length=n*c→cs=(bI n).flatMap fun i=>(cs.drop (i*c)).take c
 | 0,cs,h=>by
  have:cs=[]:=List.length_eq_zero_iff.1 (by simpa using h);subst this;rfl
 | n+1,cs,h=>by
  have hd:(cs.drop c).length=n*c:=by rw [List.length_drop,h,Nat.succ_mul];omega
  have ih:=chunks c n (cs.drop c) hd;rw [List.range_succ_eq_map,List.flatMap_cons,List.flatMap_map];simp only [Nat.zero_mul,List.drop_zero]
  conv=>lhs;rw [← gy c cs]
  congr 1
  conv=>lhs;rw [ih]
  congr 1
  funext i
  rw [List.drop_drop,Nat.succ_mul,Nat.add_comm]
theorem oH {H:Type} {enc:TypeId × Value→H} {P:Program} {w:World} {base:Nat} {sp:Nat→Bool} {held:Bool} {fuel:Nat} {t e:TypeId} {n:Nat} {k:IntKind} {cs:List Value} {p:List MemPlace}
  (D:List Int→DataW H) (Rb:List (List Int)) (ht:P.underlying t=some (.array n e)) (hc:P.cellsOf t=n*P.cellsOf e)
  (hin:∀ fuel cs zs p,DataW.trod enc P w base sp held fuel e cs=some (D zs,p)→cs=zs.map fun z=>Value.int k z)
  (h:DataW.trod enc P w base sp held fuel t cs=some (.agg (Rb.map D),p)):cs=Rb.flatten.map fun z=>Value.int k z:=by
 obtain ⟨xs,m,rfl,hx,hl,hn,hel⟩:=DataW.trod_array ht h;simp only [dW,DataW.agg.injEq] at hx
 have hz:Rb.length=n:=by
  have:=congrArg List.length hx.1
  simpa [hn] using this
 have hk:∀ i (h:i<Rb.length),(cs.drop (i*P.cellsOf e)).take (P.cellsOf e)=Rb[i].map fun z=>Value.int k z:=fun i hi=>by
  have h1:=hel i zo;have hxi:i<xs.length:=by omega
  rw [List.getElem?_eq_getElem hxi] at h1
  have h2:xs[i].1=D Rb[i]:=by
   have h3:=congrArg (·[i]?) hx.1;simp only [List.getElem?_map,List.getElem?_eq_getElem hi,List.getElem?_eq_getElem hxi,Option.map_some,Option.some.injEq] at h3;exact h3.symm
  exact hin m _ _ xs[i].2 (by rw [h1,← h2])
 rw [chunks (P.cellsOf e) n cs (by rw [hl,hc]),List.map_flatten,← hz]
 have hr:Rb=(bI Rb.length).map fun i=>Rb.getD i []:=by
  apply List.ext_getElem
  ·simp
  ·intro i h1 h2;simp [h1]
 conv=>rhs;rw [hr]
 rw [List.map_map,List.flatMap_def]
 congr 1
 refine List.map_congr_left fun i hi=>?_;have hi':i<Rb.length:=List.mem_range.1 hi;rw [hk i hi'];simp [hi']
theorem am7 : Tryz.prog.globalNamed "internal/strconv.uint64pow10" = some 4 := by kernel_rfl
theorem ai2:(Tryz.prog.globals[4]?).map (·.type)=some 360:=by kernel_rfl
theorem ai0:Tryz.prog.underlying 360=some (.array 20 168):=by kernel_rfl
theorem Xe : Tryz.prog.globalNamed "strconv.ErrRange" = some 7 := by kernel_rfl
theorem ai3:(Tryz.prog.globals[7]?).map (·.type)=some 251:=by kernel_rfl
theorem sErr : "*" ++ "errors.errorString" = "*errors.errorString" := by decide
theorem ai4 (u : TypeId) (h : Tryz.prog.typeName? 3 u = some "*errors.errorString") : u = 370 :=
 typeName_ptr_named (nm := "errors.errorString") (by rw [sErr]; kernel_rfl) zk zd u (by rw [sErr]; exact h)
theorem Xf : Tryz.prog.globalNamed "verdigris/adapt.cones" = some 1 := by kernel_rfl
theorem VW:(Tryz.prog.globals[1]?).map (·.type)=some 190:=by kernel_rfl
theorem Ry:Tryz.prog.underlying 190=some (.array 4 189):=by kernel_rfl
theorem Rz:Tryz.prog.underlying 189=some (.array 3 188):=by kernel_rfl
theorem RD:Tryz.prog.underlying 188=some (.array 3 3):=by kernel_rfl
theorem ac5 : Tryz.prog.globalNamed "verdigris/view.surrounds" = some 0 := by kernel_rfl
theorem ai1:(Tryz.prog.globals[0]?).map (·.type)=some 137:=by kernel_rfl
theorem ah9:Tryz.prog.underlying 137=some (.array 3 74):=by kernel_rfl
theorem Pm {α:Type} {l:List α} (h:l.length=5):∃ x0 x1 x2 x3 x4,l=[x0,x1,x2,x3,x4]:=by
 match l,h with
 | [x0,x1,x2,x3,x4],_=>exact ⟨x0,x1,x2,x3,x4,rfl⟩
theorem Jl {H:Type} {enc:TypeId × Value→H} {P:Program} {w:World} {base:Nat} {sp:Nat→Bool} {held:Bool} {fuel:Nat} {cs:List Value} {p:List MemPlace} {zs:List Int} {t e:TypeId} {f0 f1 f2 f3 f4:Field} (hz:zs.length=5) (ht:P.underlying t=some (.struct #[f0,f1,f2,f3,f4])) (he:P.underlying e=some (TypeDesc.int I)) (hc:P.cellsOf t=5) (h1:P.cellsOf e=1)
  (ty:(f0.type,f1.type,f2.type,f3.type,f4.type)=(e,e,e,e,e)) (of:(f0.offset,f1.offset,f2.offset,f3.offset,f4.offset)=(0,1,2,3,4)) (h:DataW.trod enc P w base sp held fuel t cs=some (Lib.tabData .i64 zs,p)):cs=zs.map fun z=>Value.int .i64 z:=by
 obtain ⟨xs,n, -, hx,hl,hn,hf⟩:=DataW.trod_struct ht h;rw [hc] at hl;unfold Lib.tabData at hx;simp only [dW,DataW.agg.injEq] at hx ty of;obtain ⟨t0,t1,t2,t3,t4⟩:=ty;obtain ⟨o0,o1,o2,o3,o4⟩:=of;obtain ⟨c0,c1,c2,c3,c4,rfl⟩:=Pm hl;obtain ⟨z0,z1,z2,z3,z4,rfl⟩:=Pm hz;obtain ⟨x0,x1,x2,x3,x4,rfl⟩:=Pm hn;simp only [bL,uG,iM,and_true] at hx;obtain ⟨⟨e0,e1,e2,e3,e4⟩, -⟩:=hx
 have g:∀ c z (x:DataW H × List MemPlace),DataW.trod enc P w base sp held n e [c]=some x→DataW.lit (Lit.int .i64 z)=x.1→c= Z I z:=fun c z x k1 k3=>by
  obtain ⟨y,hy,rfl, -⟩:=DataW.trod_int he k1;simp only [DataW.lit.injEq,Lit.int.injEq,true_and] at k3;subst k3;exact (List.cons.inj hy).1
 have k0:=hf 0 f0 rfl;have k1:=hf 1 f1 rfl;have k2:=hf 2 f2 rfl;have k3:=hf 3 f3 rfl;have k4:=hf 4 f4 rfl;rw [t0,o0,h1] at k0;rw [t1,o1,h1] at k1;rw [t2,o2,h1] at k2;rw [t3,o3,h1] at k3;rw [t4,o4,h1] at k4;rw [g c0 z0 x0 k0 e0,g c1 z1 x1 k1 e1,g c2 z2 x2 k2 e2,g c3 z3 x3 k3 e3,g c4 z4 x4 k4 e4];rfl
theorem Bn {H:Type} {enc:TypeId × Value→H} {w:World} {base:Nat} {sp:Nat→Bool} {held:Bool} {fuel:Nat} {cs:List Value} {p:List MemPlace} {zs:List Int} (hz:zs.length=5)
  (h:DataW.trod enc Tryz.prog w base sp held fuel 74 cs=some (Lib.tabData .i64 zs,p)):cs=zs.map fun z=>Value.int .i64 z :=
 Jl hz Tryz.underlying74 Tryz.underlying3 zk zk rfl rfl h
theorem Po {P:Program} {n:String} {d:DataW Unit} {r:List (String × DataW Unit)} {W:World} {g:Nat} {cs:Array Value} (hg:P.globalNamed n=some g) (h:laidMet P ((n,d)::r) W) (hv:W.var? P n=some cs) (h0:0<cs.size):∃ T,aA W g cs T:=by
 obtain ⟨ps,⟨g',t,cs',fuel,p,q,hg', -, hv', -, -, rfl⟩, -, hr⟩:=h;obtain rfl:=Option.some.inj (hg.symm.trans hg');obtain rfl:=Option.some.inj (hv.symm.trans hv')
 obtain ⟨⟨c,t,hb⟩, -⟩:=hr g 0 (by
  simp only [Nv];exact .inl (.inl (List.mem_map.2 ⟨0,List.mem_range.2 h0,rfl⟩)))
 unfold World.var? at hv;rw [hg,Option.bind_some,hb] at hv;cases hv
 exact ⟨t,hb⟩
theorem Ke {W : World} (h : laidMetH Tryz.prog [("math/bits.deBruijn32tab", Rows.laid_math_bits_deBruijn32tab), ("math/bits.deBruijn64tab", Rows.laid_math_bits_deBruijn64tab), ("internal/strconv.uint64pow10", Rows.laid_internal_strconv_uint64pow10), ("strconv.ErrRange", Rows.laid_strconv_ErrRange), ("strconv.ErrSyntax", Rows.laid_strconv_ErrSyntax), ("verdigris/adapt.cones", Rows.laid_verdigris_adapt_cones), ("verdigris/view.surrounds", Rows.laid_verdigris_view_surrounds)] W) : iA.Pow W ∧ whole.Er W ∧ adapt.fM W ∧ view.lF W := by
 rw [MakeChecks.laidMetH_plain _ _ _ zk] at h;have h2:=laidMet.tail (laidMet.tail h);refine ⟨Lib.tabIs_of_head am7 ai2 ai0 zk zk zk h2,?_,?_,?_⟩
 ·obtain ⟨a,s,hv, -⟩:=laid_sentinel (laidMet.tail h2) Xe ai3 Tryz.underlying251 ai4 Tryz.underlying370 Tryz.underlying372 rfl rfl Tryz.underlying9 zk zk;refine ⟨_,_,hv,?_⟩;have hc:=World.var?_cell Xe hv 0
  have e : (Tryz.prog.globalNamed "strconv.ErrRange").getD 0 = 7 := by rw [Xe]; rfl
  rw [e]
  rcases aH 7 W.heap.size with h3|h3
  ·exact h3
  ·unfold World.cell? at hc;rw [bq h3] at hc;simp at hc
 ·obtain ⟨ps,⟨g,t,cs,fuel,p,q,hg,ht,hvar,hd, -, -⟩, -⟩:=laidMet.tail (laidMet.tail (laidMet.tail h2));obtain rfl:=Option.some.inj (Xf.symm.trans hg);obtain rfl:=Option.some.inj (VW.symm.trans ht)
  have e:cs.toList=adapt.mW.map fun z=>Value.int .i64 z:=by
   refine oH (D:=fun l:List Int=>DataW.agg [Lib.tabData .i64 (l.take 3),Lib.tabData .i64 ((l.drop 3).take 3),Lib.tabData .i64 (l.drop 6)])
    [adapt.mW.take 9,(adapt.mW.drop 9).take 9,(adapt.mW.drop 18).take 9,adapt.mW.drop 27] Ry zk (fun fuel cs zs p h=>?_) hd
   have h3:=oH (k:=.i64) (D:=fun l:List Int=>Lib.tabData .i64 l) [zs.take 3,(zs.drop 3).take 3,zs.drop 6] Rz zk (fun fuel cs zs p h=>Lib.cells_of_tab RD zk zk zk h) h;rw [h3]
   congr 1
   have e1:zs.drop 6=(zs.drop 3).drop 3:=by rw [List.drop_drop]
   simp only [List.flatten_cons,List.flatten_nil,List.append_nil];rw [e1,gy,gy]
  show W.var? Tryz.prog "verdigris/adapt.cones" = _
  rw [hvar,← e]
 ·have h3:=laidMet.tail (laidMet.tail (laidMet.tail (laidMet.tail h2)));obtain ⟨ps,⟨g,t,cs,fuel,p,q,hg,ht,hvar,hd, -, -⟩, -⟩:=id h3;obtain rfl:=Option.some.inj (ac5.symm.trans hg);obtain rfl:=Option.some.inj (ai1.symm.trans ht)
  have e:cs.toList=[1000,1000,690,4,3,900,950,590,7,6,800,800,525,1,1].map fun z=>Value.int .i64 z :=
   oH (D:=fun l:List Int=>if l.length=5 then Lib.tabData .i64 l else .nil) [[1000,1000,690,4,3],[900,950,590,7,6],[800,800,525,1,1]] ah9 zk (fun fuel cs zs p h=>by
    by_cases hz:zs.length=5
    ·rw [if_pos hz] at h;exact Bn hz h
    ·rw [if_neg hz] at h;obtain ⟨xs,n, -, hx, -⟩:=DataW.trod_struct Tryz.underlying74 h;simp only [dW] at hx;cases hx.1) hd
  obtain ⟨T,hT⟩:=Po ac5 h3 hvar (by rw [← Array.length_toList,e];decide);refine ⟨T,?_⟩
  have e2:cs=#[Z I 1000,Z I 1000,Z I 690,Z I 4,Z I 3,Z I 900,Z I 950,Z I 590,Z I 7,Z I 6,Z I 800,Z I 800,Z I 525,Z I 1,Z I 1]:=by
   rw [← Array.toArray_toList (xs:=cs),e];rfl
  rw [← e2];exact hT
theorem NS {n:Int} (h:(Lit.int .u32 n).wf=true):0≤n∧n≤4294967295:=by
 simp [Lit.wf,IntKind.min,IntKind.max,IntKind.signed,IntKind.bits] at h
 omega
end Go.Proofs.YtbngfhgoeoncmaaGreatDoor
namespace Go.Proofs.verdigrislaw28
open Go.Proofs.iW Go Go.RowKit Go.SW Go.Num Go.Mem Go.Proofs Go.d9 Go.Fx
def smL (n d:Int):Bool:=decide (-9000000≤n)&&decide (n≤9000000)&&decide (1≤d)&&decide (d≤9000000)&&iG (q2 n d)
theorem OO {n d:Int} {s t:ByteArray} (e:Fr.of (q2 n d)=⟨s,t⟩) (h:smL n d=true):oh n d=(⟨s,t⟩,0)∧ -9223372036854775808≤n∧n≤9223372036854775807∧ -9223372036854775808≤d∧d≤9223372036854775807:=by
 unfold smL at h;simp only [aD,decide_eq_true_eq] at h;obtain ⟨⟨⟨⟨h1,h2⟩,h3⟩,h4⟩,h5⟩:=h;refine ⟨?_,by omega,by omega,by omega,by omega⟩;unfold oh;rw [if_neg zo]
 show d9.wr (q2 n d)=_
 unfold d9.wr;rw [if_pos h5,e]
theorem kY {n d:Int} {s t:ByteArray} (e:Fr.of (q2 n d)=⟨s,t⟩) (h:smL n d=true) (w:World) (ht:iA.Pow w) :
  Calls Tryz.prog 12 #[Z I n,Z I d] w (fun e w'=>e= ah (aB #[O s,O t])∧Below w.heap.size w w'):=by
 obtain ⟨h0,h1,h2,h3,h4⟩:=OO e h;refine Fx.door Tryz.func12 rfl (.nil w []) ?_;refine Fx.bH [] 4 38 [] [] fun iK=>?_;refine Fx.call [] 10 [] [] (fun W M=>cOf h0 W (ht.later M.below) h1 h2 h3 h4) ?_;refine Fx.bH [] 5 38 [(11,aB #[O s,O t]),(12,Z I 0)] [] fun mM=>?_;exact Fx.mU 0 iK [4,4,3] [(0,#[O s,O t]),(1,#[O s,O t])] (fun W M=>⟨rfl,M.below⟩)
end Go.Proofs.verdigrislaw28
namespace Go.Proofs.dR
open Go Go.RowKit Go.SW Go.Num Go.Mem Go.Proofs Go.Dec Go.d9 Go.Proofs.matrix Go.Proofs.dV
theorem Zy {n:Int} (h:n.natAbs≤1000000000000000000):Hq 18 (un n):=⟨n,1000000000000,by omega,by decide+kernel,ay h (by decide+kernel),rfl⟩
theorem Ii {n:Int} (h:n.natAbs≤1000000000000000000):iG (un n)=true:=(Zy h).ok zo
theorem KF (n:Int) (h:n.natAbs≤1000000000000000000) (W:World) (ht:iA.Pow W) :
  Calls Tryz.prog 47 #[Z I n] W (fun e w'=>e= ah (aF #[aB #[O (Fr.of (un n)).n,O (Fr.of (un n)).d],Z I 0])∧Below W.heap.size W w'):=by
 refine Dj n _ _ W zo zo ht ?_;unfold oh;rw [if_neg zo]
 show d9.wr (un n)=_
 unfold d9.wr;rw [if_pos (Ii h)]
theorem KO {p q:Rat} (hp:iG p=true) (hq:iG q=true) (W:World) :
  Calls Tryz.prog 36 #[aB #[O (Fr.of p).n,O (Fr.of p).d],aB #[O (Fr.of q).n,O (Fr.of q).d]] W (fun e w'=>e= ah (aF #[Z I (jk p q),Z I 0])∧Below W.heap.size W w'):=by
 have:=dw.DR (Fr.of p) (Fr.of q) W;rw [show uE (Fr.of p) (Fr.of q)=(jk p q,0) by unfold uE;rw [mF hp,mF hq]] at this;exact this
theorem Tn {b:Int × Int} {q:Rat} {M:Int} (h:In b q M) (hM:M≤1000000000000000000) (hq:iG q=true) (W:World) (ht:iA.Pow W) :
  Calls Tryz.prog 18 #[aB #[Z I b.1,Z I b.2],aB #[O (Fr.of q).n,O (Fr.of q).d]] W (fun e w'=>e= ah (aF #[aC true,Z I 0])∧Below W.heap.size W w'):=by
 have hle:=h.le;obtain ⟨g1,g2,g3,g4⟩:=id h;have n1:b.1.natAbs≤1000000000000000000:=by omega
 have n2:b.2.natAbs≤1000000000000000000:=by omega
 exact Yc b.1 b.2 (jk q (un b.1)) (jk q (un b.2)) _ _ _ _ _ _ W (h.jy hM)
  (by unfold jk;rw [if_neg (by grind)];split<;>omega)
  (by unfold jk;split;omega;rw [if_neg (by grind)];omega)
  (fun W2 h2=>KF b.1 n1 W2 (ht.later h2)) (fun W2 h2=>KF b.2 n2 W2 (ht.later h2))
  (fun W2=>KO hq (Ii n1) W2) (fun W2=>KO hq (Ii n2) W2)
end Go.Proofs.dR
namespace Go.Proofs.verdigrislaw28
open Go.Proofs.iW Go Go.RowKit Go.SW Go.Num Go.Mem Go.Proofs Go.d9 Go.Fx Go.Proofs.view
theorem jZ (a b:ByteArray) (W:World):(Op.equalIn 10000 38 (aB #[O a,O b]) (aB #[O a,O b])).run Tryz.prog W= .ok true W:=by go_simp
theorem fu (n:Int) (w:World):Calls Tryz.prog 8 #[Z I n] w (fun e w'=>e= ah (aB #[Z I n,Z I n])∧Below w.heap.size w w'):=by
 refine Fx.door Tryz.func8 rfl (.nil w []) ?_;refine Fx.bH [] 2 26 [] [] fun iK=>?_;exact Fx.mU 0 iK [3] [(0,#[Z I n,Z I n])] (fun W M=>⟨rfl,M.below⟩)
theorem WY {x y n d:Int} {s t:ByteArray} (e:Fr.of (q2 n d)=⟨s,t⟩) (h:matrix.In (x,y) (q2 n d) 1000000000000000000) (hq:iG (q2 n d)=true) (w:World) (ht:iA.Pow w) :
  Calls Tryz.prog 18 #[aB #[Z I x,Z I y],aB #[O s,O t]] w (fun e w'=>e= ah (aF #[aC true,Z I 0])∧Below w.heap.size w w'):=by
 have:=dR.Tn h (Int.le_refl _) hq w ht;rw [e] at this;exact this
theorem Xr {W:light.gJ} {la yb:Fr} {s k:Int} (h:(kM W la yb s).2=k) (hk:k≠0):uz W la yb s=(zI,k):=by
 unfold uz cl;rw [h,if_neg hk]
theorem TK {W:light.gJ} {la yb F N n D:Fr} {s nu de:Int} (h:((kM W la yb s).2=0∧(kM W la yb s).1.1.1=F∧(kM W la yb s).1.1.2.1=N∧(kM W la yb s).1.1.2.2.2.1=n∧(kM W la yb s).1.1.2.2.2.2=D)∧(kM W la yb s).1.2.1=(nu,de)) :
  ∃ c1 c2 g1 g2 g3 g4 g5 g6 v1 v2 p1 p2 q1 q2,uz W la yb s=(((F,N,⟨c1,c2⟩,n,D),(nu,de),⟨⟨g1,g2⟩,⟨g3,g4⟩,⟨g5,g6⟩⟩,(v1,v2),(p1,p2),(q1,q2)),0):=by
 unfold uz cl;generalize kM W la yb s=r at *;obtain ⟨⟨⟨F',N',⟨c1,c2⟩,n',D'⟩,⟨nu',de'⟩,⟨⟨g1,g2⟩,⟨g3,g4⟩,⟨g5,g6⟩⟩,⟨v1,v2⟩,⟨p1,p2⟩,⟨q1,q2⟩⟩,k⟩:=r;simp only [dW] at h;obtain ⟨⟨rfl,rfl,rfl,rfl,rfl⟩,rfl,rfl⟩:=h;exact ⟨c1,c2,g1,g2,g3,g4,g5,g6,v1,v2,p1,p2,q1,q2,rfl⟩
theorem F8 {W:light.gJ} {la yb F N C n D:Fr} {s nu de:Int} (h:((kM W la yb s).2=0∧(kM W la yb s).1.1.1=F∧(kM W la yb s).1.1.2.1=N∧(kM W la yb s).1.1.2.2.1=C∧(kM W la yb s).1.1.2.2.2.1=n∧(kM W la yb s).1.1.2.2.2.2=D)∧(kM W la yb s).1.2.1=(nu,de)) :
  ∃ g1 g2 g3 g4 g5 g6 v1 v2 p1 p2 q1 q2,uz W la yb s=(((F,N,C,n,D),(nu,de),⟨⟨g1,g2⟩,⟨g3,g4⟩,⟨g5,g6⟩⟩,(v1,v2),(p1,p2),(q1,q2)),0):=by
 unfold uz cl;generalize kM W la yb s=r at *;obtain ⟨⟨⟨F',N',C',n',D'⟩,⟨nu',de'⟩,⟨⟨g1,g2⟩,⟨g3,g4⟩,⟨g5,g6⟩⟩,⟨v1,v2⟩,⟨p1,p2⟩,⟨q1,q2⟩⟩,k⟩:=r;simp only [dW] at h;obtain ⟨⟨rfl,rfl,rfl,rfl,rfl,rfl⟩,rfl,rfl⟩:=h;exact ⟨g1,g2,g3,g4,g5,g6,v1,v2,p1,p2,q1,q2,rfl⟩
end Go.Proofs.verdigrislaw28
namespace Go.Proofs.verdigrislaw28
open Go.Proofs.iW Go Go.RowKit Go.SW Go.Num Go.Mem Go.Proofs Go.Dec Go.d9 Go.Fx Go.Proofs.view
theorem iR {s1 t1 s2 t2 s3 t3:ByteArray} (e1:Fr.of (q2 1 1)=⟨s1,t1⟩) (e2:Fr.of (q2 64 1)=⟨s2,t2⟩) (e3:Fr.of (q2 1 5)=⟨s3,t3⟩) (w:World) (ht:iA.Pow w) :
  Calls Tryz.prog 15 #[] w (fun e w'=>e= ah (aB #[O s1,O t1,O s1,O t1,O s1,O t1,O s2,O t2,O s3,O t3,Z I 1])∧Below w.heap.size w w'):=by
 have C1:=zh (fun W h=>kY e1 (by decide+kernel) W h);have C2:=zh (fun W h=>kY e2 (by decide+kernel) W h);have C3:=zh (fun W h=>kY e3 (by decide+kernel) W h);refine Fx.door Tryz.func15 rfl (.nil w []) ?_;refine Fx.bH [] 0 42 [] [] fun iK=>?_;refine Fx.call [] 1 [] [] (fun W M=>C1.out _ (ht.later M.below)) ?_;refine Fx.call [] 2 [] [] (fun W M=>C1.out _ (ht.later M.below)) ?_;refine Fx.call [] 3 [] [] (fun W M=>C1.out _ (ht.later M.below)) ?_;refine Fx.call [] 5 [(4,aB #[O s1,O t1,O s1,O t1,O s1,O t1])] [] (fun W M=>C2.out _ (ht.later M.below)) ?_;refine Fx.call [] 6 [] [] (fun W M=>C3.out _ (ht.later M.below)) ?_;exact Fx.mU 0 iK [3] [(0,#[O s1,O t1,O s1,O t1,O s1,O t1,O s2,O t2,O s3,O t3,Z I 1])] (fun W M=>⟨rfl,M.below⟩)
theorem EA (w:World) (ht:iA.Pow w) (he:whole.Er w) (hc:adapt.fM w) (hs:lF w):Calls Tryz.prog 7 #[] w (fun e w'=>e= ah (aC true)∧Below w.heap.size w w'):=by
 have HP:=zh ht;have HE:=zh he;have HC:=zh hc;have HS:=zh hs;obtain ⟨⟨aS,aR⟩,vF⟩:∃ y,Hid (Fr.of (q2 1 1)=y):=⟨_,zh rfl⟩;obtain ⟨⟨fK,fJ⟩,DN⟩:∃ y,Hid (Fr.of (q2 64 1)=y):=⟨_,zh rfl⟩;obtain ⟨⟨dQ,dP⟩,yB⟩:∃ y,Hid (Fr.of (q2 1 5)=y):=⟨_,zh rfl⟩;obtain ⟨⟨vY,vX⟩,EF3⟩:∃ y,Hid (Fr.of (q2 587 702)=y):=⟨_,zh rfl⟩;obtain ⟨ae8,ae7,Qc,Qb,Qa,P9,P8,P7,NQ,NP,OL,OJ,Oy,Ox,Yu⟩:=TK (W:=⟨⟨aS,aR⟩,⟨aS,aR⟩,⟨aS,aR⟩⟩) (la:=⟨fK,fJ⟩) (yb:=⟨dQ,dP⟩) (s:=1) (F:=⟨aS,aR⟩) (N:=⟨aS,aR⟩) (n:=⟨dQ,dP⟩) (D:=⟨vY,vX⟩) (nu:=4) (de:=3) (by rw [← vF.out,← DN.out,← yB.out,← EF3.out];decide+kernel);replace Yu:=zh Yu;have C0:=zh (fun W ht he=>fH (show xP (1000000000000,1000000000000) (0,0)=((0,0),0) by decide+kernel) W ht he)
 have C1:=zh (fun W ht he=>fH (show xP (1000000000000,1000000000000) (1000000000000,1000000000000)=((14219694276573,14219694276574),0) by decide+kernel) W ht he);obtain ⟨⟨Jf,Je⟩,EF4⟩:∃ y,Hid (Fr.of (q2 40000 2813)=y):=⟨_,zh rfl⟩;have C2:=zh (fun W h=>kY EF4.out (by decide+kernel) W h);have C3:=zh (fun W h=>WY (x:=14219694276573) (y:=14219694276574) EF4.out ⟨by decide+kernel,by decide+kernel,by decide,by decide⟩ (by decide+kernel) W h)
 have C4:=zh (fun W=>j5 (f1:=⟨#[]⟩) (f2:=⟨#[]⟩) (n1:=⟨#[]⟩) (n2:=⟨#[]⟩) (c1:=⟨#[]⟩) (c2:=⟨#[]⟩) (m1:=⟨#[]⟩) (m2:=⟨#[]⟩) (d1:=⟨#[]⟩) (d2:=⟨#[]⟩) (g1:=⟨#[]⟩) (g2:=⟨#[]⟩) (g3:=⟨#[]⟩) (g4:=⟨#[]⟩) (g5:=⟨#[]⟩) (g6:=⟨#[]⟩) (nu:=0) (de:=0) (v1:=0) (v2:=0) (q1:=0) (q2:=0) (show Jr (1000000000000,1000000000000) (1000000000000,1000000000000) (1000000000000,1000000000000) (1000000000000,1000000000000)=((3050000000000,3050000000000),0) by decide+kernel) W);obtain ⟨⟨Di,Dh⟩,EF5⟩:∃ y,Hid (Fr.of (q2 1 2)=y):=⟨_,zh rfl⟩;have C5:=zh (fun W h=>kY EF5.out (by decide+kernel) W h);obtain ⟨⟨MJ,MI⟩,EF6⟩:∃ y,Hid (Fr.of (q2 2 1)=y):=⟨_,zh rfl⟩;have C6:=zh (fun W h=>kY EF6.out (by decide+kernel) W h);have C7:=zh (fun W h=>kY vF.out (by decide+kernel) W h);have C8:=zh (fun W h=>kY yB.out (by decide+kernel) W h);have C9:=zh (fun W h=>kY EF3.out (by decide+kernel) W h)
 have C10:=zh (fun W ht hc hs=>jA (k:=280) (show (jw ⟨⟨aS,aR⟩,⟨aS,aR⟩,⟨aS,aR⟩⟩ ⟨Di,Dh⟩ ⟨dQ,dP⟩ 1).2=280 by rw [← vF.out,← EF5.out,← yB.out];decide+kernel) W ht hc hs);have C11:=zh (fun W ht hc hs=>jA (k:=280) (show (jw ⟨⟨aS,aR⟩,⟨aS,aR⟩,⟨aS,aR⟩⟩ ⟨fK,fJ⟩ ⟨MJ,MI⟩ 1).2=280 by rw [← vF.out,← DN.out,← EF6.out];decide+kernel) W ht hc hs);have C12:=zh (fun W ht hc hs=>jA (k:=280) (show (jw ⟨⟨aS,aR⟩,⟨aS,aR⟩,⟨aS,aR⟩⟩ ⟨fK,fJ⟩ ⟨dQ,dP⟩ 4).2=280 by rw [← vF.out,← DN.out,← yB.out];decide+kernel) W ht hc hs);clear ht he hc hs;refine Fx.door Tryz.func7 rfl (.nil w []) ?_;refine Fx.call [] 15 [] [] (fun W M=>iR vF.out DN.out yB.out _ (HP.out.later M.below)) ?_;refine Fx.bH [] 1 42 [] [] fun iK=>?_
 refine Fx.call [3,3] 18 [] [(0,#[O aS,O aR,O aS,O aR,O aS,O aR,O fK,O fJ,O dQ,O dP,Z I 1])] (fun W M=>sM Yu.out _ (HP.out.later M.below) (HE.out.later M.below) (HC.out.later M.below) (HS.out.later M.below)) ?_;refine Fx.bH [] 2 45 [(19,aB #[O aS,O aR,O aS,O aR,O ae8,O ae7,O dQ,O dP,O vY,O vX,Z I 4,Z I 3,O Qc,O Qb,O Qa,O P9,O P8,O P7,Z I NQ,Z I NP,Z I OL,Z I OJ,Z I Oy,Z I Ox]),(20,Z I 0)] [] fun mM=>?_
 refine Fx.call [4] 22 [(3,Z I 0)] [(1,#[O aS,O aR,O aS,O aR,O ae8,O ae7,O dQ,O dP,O vY,O vX,Z I 4,Z I 3,O Qc,O Qb,O Qa,O P9,O P8,O P7,Z I NQ,Z I NP,Z I OL,Z I OJ,Z I Oy,Z I Ox])] (fun W M=>fu 1000000000000 _) ?_;refine Fx.call [] 23 [] [] (fun W M=>fu 0 _) ?_;refine Fx.call [] 24 [] [] (fun W M=>C0.out _ (HP.out.later M.below) (HE.out.later M.below)) ?_;refine Fx.bH [] 4 26 [(25,aB #[Z I 0,Z I 0]),(26,Z I 0)] [] fun qO=>?_;refine Fx.call [5] 28 [(5,Z I 0)] [(2,#[Z I 0,Z I 0])] (fun W M=>fu 1000000000000 _) ?_;refine Fx.call [] 29 [] [] (fun W M=>fu 1000000000000 _) ?_
 refine Fx.call [] 30 [] [] (fun W M=>C1.out _ (HP.out.later M.below) (HE.out.later M.below)) ?_;refine Fx.bH [] 6 26 [(31,aB #[Z I 14219694276573,Z I 14219694276574]),(32,Z I 0)] [] fun QC=>?_;refine Fx.draw [6] [0,1,2,3,4,5,5006,5007] [] [(7,Z I 0)] [(3,#[Z I 14219694276573,Z I 14219694276574])] ?_;refine Fx.call [6] 35 [(34,aB #[Z I 14219694276573,Z I 14219694276574])] [] (fun W M=>C2.out _ (HP.out.later M.below)) ?_;refine Fx.call [] 36 [] [] (fun W M=>C3.out _ (HP.out.later M.below)) ?_;refine Fx.call [] 40 [(8,aC true),(9,Z I 0)] [] (fun W M=>fu 1000000000000 _) ?_
 refine Fx.call [] 42 [(41,aB #[O ⟨#[]⟩,O ⟨#[]⟩,O ⟨#[]⟩,O ⟨#[]⟩,O ⟨#[]⟩,O ⟨#[]⟩,O ⟨#[]⟩,O ⟨#[]⟩,O ⟨#[]⟩,O ⟨#[]⟩,Z I 0,Z I 0,O ⟨#[]⟩,O ⟨#[]⟩,O ⟨#[]⟩,O ⟨#[]⟩,O ⟨#[]⟩,O ⟨#[]⟩,Z I 0,Z I 0,Z I 1000000000000,Z I 1000000000000,Z I 0,Z I 0])] [] (fun W M=>fu 1000000000000 _) ?_;refine Fx.call [] 43 [] [] (fun W M=>fu 1000000000000 _) ?_;refine Fx.call [] 44 [] [] (fun W M=>fu 1000000000000 _) ?_;refine Fx.call [] 46 [] [] (fun W M=>C4.out _) ?_;refine Fx.bH [] 10 26 [(47,aB #[Z I 3050000000000,Z I 3050000000000]),(48,Z I 0)] [] fun TR=>?_
 refine Fx.ad5 5 [7] [(11,Z I 0)] [(4,#[Z I 3050000000000,Z I 3050000000000])] (fun (x:Nat × Nat × Nat)=>[(14,au (some ⟨x.2.2,0,none⟩)),(13,au (some ⟨x.2.1,0,none⟩)),(12,au (some ⟨x.1,0,none⟩))]) (fun (x:Nat × Nat × Nat)=>[⟨x.1,#[O aS,O aR,O aS,O aR,O aS,O aR,O fK,O fJ,O dQ,O dP,Z I 1],42,true⟩,⟨x.2.1,#[O aS,O aR,O aS,O aR,O aS,O aR,O fK,O fJ,O dQ,O dP,Z I 1],42,true⟩,⟨x.2.2,#[O aS,O aR,O aS,O aR,O aS,O aR,O fK,O fJ,O dQ,O dP,Z I 1],42,true⟩]) rfl ?_ ?_
 ·skip
  refine Fx.Ll 6 1 zd ?_ ?_
  ·skip
   refine Fx.Ll 6 2 zd ?_ ?_
   ·skip
    refine Fx.Ll 7 2 zd ?_ ?_
    ·skip
     refine Fx.zO [0,3,4,5,6,5001,7,5002,8] ?_;refine Fx.iL [3] 12 42 [(49,aB #[O aS,O aR,O aS,O aR,O aS,O aR,O fK,O fJ,O dQ,O dP,Z I 1])] [] fun Av=>?_;refine Fx.iL [] 13 42 [] [] fun Rk=>?_;refine Fx.iL [] 14 42 [] [] fun YN=>?_
     exact Fx.qw [8,3,9,3,10] [(5,#[O aS,O aR,O aS,O aR,O aS,O aR,O fK,O fJ,O dQ,O dP,Z I 1]),(6,#[O aS,O aR,O aS,O aR,O aS,O aR,O fK,O fJ,O dQ,O dP,Z I 1]),(7,#[O aS,O aR,O aS,O aR,O aS,O aR,O fK,O fJ,O dQ,O dP,Z I 1])] (Av,Rk,YN) (by repeat first|exact Fx.AL.refl _|refine Fx.AL.cons ?_|refine Fx.AL.skip ?_ zk)
    ·skip
     refine Fx.Ll 1 2 zd ?_ ?_
     ·skip
      refine Fx.zO [0,3,4,5,6,5001,5002,7,8] ?_;refine Fx.iL [3] 12 42 [(49,aB #[O aS,O aR,O aS,O aR,O aS,O aR,O fK,O fJ,O dQ,O dP,Z I 1])] [] fun TQ=>?_;refine Fx.iL [] 13 42 [] [] fun TV=>?_;refine Fx.iL [] 14 42 [] [] fun TU=>?_
      exact Fx.qw [8,3,3,9,10] [(5,#[O aS,O aR,O aS,O aR,O aS,O aR,O fK,O fJ,O dQ,O dP,Z I 1]),(6,#[O aS,O aR,O aS,O aR,O aS,O aR,O fK,O fJ,O dQ,O dP,Z I 1]),(7,#[O aS,O aR,O aS,O aR,O aS,O aR,O fK,O fJ,O dQ,O dP,Z I 1])] (TQ,TV,TU) (by repeat first|exact Fx.AL.refl _|refine Fx.AL.cons ?_|refine Fx.AL.skip ?_ zk)
     ·skip
      refine Fx.zO [0,3,4,5,6,5002,5001,7,8] ?_;refine Fx.iL [3] 12 42 [(49,aB #[O aS,O aR,O aS,O aR,O aS,O aR,O fK,O fJ,O dQ,O dP,Z I 1])] [] fun TT=>?_;refine Fx.iL [] 13 42 [] [] fun XP=>?_;refine Fx.iL [] 14 42 [] [] fun af6=>?_
      exact Fx.qw [8,3,3,9,10] [(5,#[O aS,O aR,O aS,O aR,O aS,O aR,O fK,O fJ,O dQ,O dP,Z I 1]),(6,#[O aS,O aR,O aS,O aR,O aS,O aR,O fK,O fJ,O dQ,O dP,Z I 1]),(7,#[O aS,O aR,O aS,O aR,O aS,O aR,O fK,O fJ,O dQ,O dP,Z I 1])] (TT,XP,af6) (by repeat first|exact Fx.AL.refl _|refine Fx.AL.cons ?_|refine Fx.AL.skip ?_ zk)
   ·skip
    refine Fx.zO [0,2,3,4,5,6,5001,7,8] ?_;refine Fx.iL [3,3] 12 42 [(49,aB #[O aS,O aR,O aS,O aR,O aS,O aR,O fK,O fJ,O dQ,O dP,Z I 1]),(51,aB #[O aS,O aR,O aS,O aR,O aS,O aR,O fK,O fJ,O dQ,O dP,Z I 1])] [] fun af5=>?_;refine Fx.iL [] 13 42 [] [] fun XO=>?_;refine Fx.iL [] 14 42 [] [] fun af4=>?_
    exact Fx.qw [8,3,9,10] [(5,#[O aS,O aR,O aS,O aR,O aS,O aR,O fK,O fJ,O dQ,O dP,Z I 1]),(6,#[O aS,O aR,O aS,O aR,O aS,O aR,O fK,O fJ,O dQ,O dP,Z I 1]),(7,#[O aS,O aR,O aS,O aR,O aS,O aR,O fK,O fJ,O dQ,O dP,Z I 1])] (af5,XO,af4) (by repeat first|exact Fx.AL.refl _|refine Fx.AL.cons ?_|refine Fx.AL.skip ?_ zk)
  ·skip
   refine Fx.Ll 6 2 zd ?_ ?_
   ·skip
    refine Fx.Ll 7 2 zd ?_ ?_
    ·skip
     refine Fx.zO [0,1,3,4,5,6,7,5002,8] ?_;refine Fx.iL [3,3] 12 42 [(49,aB #[O aS,O aR,O aS,O aR,O aS,O aR,O fK,O fJ,O dQ,O dP,Z I 1]),(50,aB #[O aS,O aR,O aS,O aR,O aS,O aR,O fK,O fJ,O dQ,O dP,Z I 1])] [] fun af3=>?_;refine Fx.iL [] 13 42 [] [] fun XM=>?_;refine Fx.iL [] 14 42 [] [] fun XL=>?_
     exact Fx.qw [8,9,3,10] [(5,#[O aS,O aR,O aS,O aR,O aS,O aR,O fK,O fJ,O dQ,O dP,Z I 1]),(6,#[O aS,O aR,O aS,O aR,O aS,O aR,O fK,O fJ,O dQ,O dP,Z I 1]),(7,#[O aS,O aR,O aS,O aR,O aS,O aR,O fK,O fJ,O dQ,O dP,Z I 1])] (af3,XM,XL) (by repeat first|exact Fx.AL.refl _|refine Fx.AL.cons ?_|refine Fx.AL.skip ?_ zk)
    ·skip
     refine Fx.zO [0,1,3,4,5,6,5002,7,8] ?_;refine Fx.iL [3,3] 12 42 [(49,aB #[O aS,O aR,O aS,O aR,O aS,O aR,O fK,O fJ,O dQ,O dP,Z I 1]),(50,aB #[O aS,O aR,O aS,O aR,O aS,O aR,O fK,O fJ,O dQ,O dP,Z I 1])] [] fun af2=>?_;refine Fx.iL [] 13 42 [] [] fun ao0=>?_;refine Fx.iL [] 14 42 [] [] fun an9=>?_
     exact Fx.qw [8,3,9,10] [(5,#[O aS,O aR,O aS,O aR,O aS,O aR,O fK,O fJ,O dQ,O dP,Z I 1]),(6,#[O aS,O aR,O aS,O aR,O aS,O aR,O fK,O fJ,O dQ,O dP,Z I 1]),(7,#[O aS,O aR,O aS,O aR,O aS,O aR,O fK,O fJ,O dQ,O dP,Z I 1])] (af2,ao0,an9) (by repeat first|exact Fx.AL.refl _|refine Fx.AL.cons ?_|refine Fx.AL.skip ?_ zk)
   ·skip
    refine Fx.zO [0,1,2,3,4,5,6,7,8] ?_;refine Fx.iL [3,3,3] 12 42 [(49,aB #[O aS,O aR,O aS,O aR,O aS,O aR,O fK,O fJ,O dQ,O dP,Z I 1]),(50,aB #[O aS,O aR,O aS,O aR,O aS,O aR,O fK,O fJ,O dQ,O dP,Z I 1]),(51,aB #[O aS,O aR,O aS,O aR,O aS,O aR,O fK,O fJ,O dQ,O dP,Z I 1])] [] fun af0=>?_;refine Fx.iL [] 13 42 [] [] fun ae9=>?_;refine Fx.iL [] 14 42 [] [] fun an8=>?_
    exact Fx.qw [8,9,10] [(5,#[O aS,O aR,O aS,O aR,O aS,O aR,O fK,O fJ,O dQ,O dP,Z I 1]),(6,#[O aS,O aR,O aS,O aR,O aS,O aR,O fK,O fJ,O dQ,O dP,Z I 1]),(7,#[O aS,O aR,O aS,O aR,O aS,O aR,O fK,O fJ,O dQ,O dP,Z I 1])] (af0,ae9,an8) (by repeat first|exact Fx.AL.refl _|refine Fx.AL.cons ?_|refine Fx.AL.skip ?_ zk)
 ·rintro ⟨Av,Rk,YN⟩;refine Fx.call [] 52 [] [] (fun W M=>C5.out _ (HP.out.later M.below)) ?_;refine Fx.call [] 53 [] [] (fun W M=>C6.out _ (HP.out.later M.below)) ?_
  refine Fx.draw [8,9,10] [0,1,2,3,4,5,6,7,8,9,10,11,12,13,14,15,16,17,18,19,20,21,22,23,24,25,26,27,28,29,30,31,32,33,34,35,36,37,38,39,40,41,42,43,44,45,46,47,48,49,50,51,52,53,54,55,56,57,58,59,60,61,62,63,64,65,66,67,68,69,70,71,72,73,74,75,76,77,78,79,80,81,82,83,84,85,86,87,5088] [] [] [(5,#[O aS,O aR,O aS,O aR,O aS,O aR,O Di,O Dh,O dQ,O dP,Z I 1]),(6,#[O aS,O aR,O aS,O aR,O aS,O aR,O fK,O fJ,O MJ,O MI,Z I 1]),(7,#[O aS,O aR,O aS,O aR,O aS,O aR,O fK,O fJ,O dQ,O dP,Z I 4])] ?_;refine Fx.call [4] 62 [(59,aC true),(61,aB #[O aS,O aR])] [] (fun W M=>C7.out _ (HP.out.later M.below)) ?_
  refine Fx.eql 0 [] 63 true true 38 (aB #[O aS,O aR]) (aB #[O aS,O aR]) [] [] (fun _=>jZ _ _ _) ?_;refine Fx.call [4] 68 [(65,aC true),(67,aB #[O aS,O aR])] [] (fun W M=>C7.out _ (HP.out.later M.below)) ?_;refine Fx.eql 0 [] 69 true true 38 (aB #[O aS,O aR]) (aB #[O aS,O aR]) [] [] (fun _=>jZ _ _ _) ?_;refine Fx.call [4,4,4] 84 [(81,aC true),(83,aB #[O dQ,O dP])] [] (fun W M=>C8.out _ (HP.out.later M.below)) ?_;refine Fx.eql 0 [] 85 true true 38 (aB #[O dQ,O dP]) (aB #[O dQ,O dP]) [] [] (fun _=>jZ _ _ _) ?_;refine Fx.call [4] 90 [(87,aC true),(89,aB #[O vY,O vX])] [] (fun W M=>C9.out _ (HP.out.later M.below)) ?_
  refine Fx.eql 0 [] 91 true true 38 (aB #[O vY,O vX]) (aB #[O vY,O vX]) [] [] (fun _=>jZ _ _ _) ?_;refine Fx.call [5] 99 [(97,aC true),(98,aB #[Z I 0,Z I 0])] [] (fun W M=>fu 0 _) ?_;refine Fx.call [6,6,7] 127 [(125,aC true),(126,aB #[Z I 3050000000000,Z I 3050000000000])] [] (fun W M=>fu 3050000000000 _) ?_;refine Fx.call [8] 132 [(130,aC true)] [] (fun W M=>C10.out _ (HP.out.later M.below) (HC.out.later M.below) (HS.out.later M.below)) ?_;refine Fx.call [9] 137 [(135,aC true)] [] (fun W M=>C11.out _ (HP.out.later M.below) (HC.out.later M.below) (HS.out.later M.below)) ?_;refine Fx.call [10] 142 [(140,aC true)] [] (fun W M=>C12.out _ (HP.out.later M.below) (HC.out.later M.below) (HS.out.later M.below)) ?_;exact Fx.xE [] [] (fun W M=>⟨rfl,M.below⟩)
end Go.Proofs.verdigrislaw28
