/- Lemmas for the proof. No condition. -/
import Derived.Test.YtneajphgfdlmhaaGreatDoorXB01
import Derived.Test.YtneajphgfdlmhaaGreatDoorXB02
import Derived.Test.YtneajphgfdlmhaaGreatDoorXB03
import Derived.Test.YtneajphgfdlmhaaGreatDoorXB06
import Derived.Test.YtneajphgfdlmhaaGreatDoorXB08
import Derived.Test.YtneajphgfdlmhaaGreatDoorXB10
import Derived.Test.YtneajphgfdlmhaaGreatDoorXB11
set_option linter.unusedVariables false
set_option linter.unusedSimpArgs false
set_option maxRecDepth 100000
set_option maxHeartbeats 16000000
namespace Go.Proofs.jf
open Go Go.RowKit Go.SW Go.Num Go.Mem Go.Proofs Go.Dec Go.fF Go.Proofs.aC
theorem Pl.kept {l:List TypeId} {w w':World} {v:Value} {z:Int} (h:Pl w v z) (k:Keep l w w') (hT:3∉l):Pl w' v z:=by
 obtain ⟨pa,n,c,h1,h2⟩:=h;exact ⟨pa,n,c,h1,Row.kept h2 k hT⟩
theorem Ra.kept {l:List TypeId} {w w':World} {v:Value} {q:Rat} (h:Ra w v q) (k:Keep l w w') (hT:3∉l):Ra w' v q:=by
 obtain ⟨bn,pn,ln,cn,bd,pd,ld,cd,e,h1,h2⟩:=h;exact ⟨bn,pn,ln,cn,bd,pd,ld,cd,e,Pl.kept h1 k hT,Pl.kept h2 k hT⟩
def Lc:Rl Rat:=fun w q c=>∃ bn pn ln cn bd pd ld cd,c=[.bool bn,.slice pn ln cn,.bool bd,.slice pd ld cd]∧Ra w (.agg #[.bool bn,.slice pn ln cn,.bool bd,.slice pd ld cd]) q
theorem Lc.stay {m:List TypeId} (h:3∉m):zA m Lc:=fun w w' a c k hr=>by
 obtain ⟨bn,pn,ln,cn,bd,pd,ld,cd,e,h1⟩:=hr;exact ⟨bn,pn,ln,cn,bd,pd,ld,cd,e,Ra.kept h1 k h⟩
def zG (w:World) (v:Value) (qs:List Rat):Prop:=KU w 163 4 Lc v qs
def aP1:Rl (List Rat):=aZ6 zG
theorem aP1.stay {m:List TypeId} (h:3∉m) (h2:163∉m):zA m aP1:=fun w w' a c k hr=>by
 obtain ⟨v,e,h1⟩:=hr;exact ⟨v,e,KU.kept h1 k h2 (Lc.stay h)⟩
theorem zG.later {w w':World} {v:Value} {qs:List Rat} (h:zG w v qs) (hb:Below w.heap.size w w'):zG w' v qs:=KU.later h hb (Lc.stay zi)
theorem ZA:(Tryz.prog.info? 163).map (fun i=>(i.zero,i.size,i.bytes))=some (some (.agg #[.bool false,.slice none 0 0,.bool false,.slice none 0 0]),4,64):=by kernel_rfl
theorem zG.at {w:World} {v:Value} {qs:List Rat} (h:zG w v qs):∃ a cap,v= .slice a qs.length cap∧qs.length≤cap∧cap≤9223372036854775807 ∧
  ∀ k (_:k<qs.length),∃ b off bn pn ln cn bd pd ld cd,a=some ⟨b,off,none⟩∧b<w.heap.size∧w.cell? ⟨b,off+k*4,none⟩=some (.bool bn)∧w.cell? ⟨b,off+k*4+1,none⟩=some (.slice pn ln cn)∧w.cell? ⟨b,off+k*4+2,none⟩=some (.bool bd)∧w.cell? ⟨b,off+k*4+3,none⟩=some (.slice pd ld cd) ∧
   Ra w (.agg #[.bool bn,.slice pn ln cn,.bool bd,.slice pd ld cd]) qs[k]:=by
 obtain ⟨a,cap,h1,h2,h3,h4⟩:=KU.read h;refine ⟨a,cap,h1,h2,h3,fun k hk=>?_⟩;obtain ⟨b,off,c,k1,k2,⟨bn,pn,ln,cn,bd,pd,ld,cd,rfl,k3⟩, -, k5⟩:=h4 k hk;exact ⟨b,off,bn,pn,ln,cn,bd,pd,ld,cd,k1,k2,k5 0 zo,k5 1 zo,k5 2 zo,k5 3 zo,k3⟩
end Go.Proofs.jf
namespace Go.Proofs.aN
open Go Go.RowKit Go.SW Go.Num Go.Mem Go.Proofs Go.Dec Go.fF Go.Proofs.aW Go.Proofs.aC Go.Proofs.au Go.Proofs.jf
theorem Wy (p x:Rat):∀ l:List Rat,gX p (l++[x])=if x<gX p l then x else gX p l:=by
 intro l
 induction l generalizing p with
 | nil=>rfl
 | cons y l ih=>simp only [List.cons_append,gX];exact ih _
theorem QD (p x:Rat):∀ l:List Rat,dN p (l++[x])=if dN p l<x then x else dN p l:=by
 intro l
 induction l generalizing p with
 | nil=>rfl
 | cons y l ih=>simp only [List.cons_append,dN];exact ih _
theorem Zl (p:Rat):∀ l:List Rat,gX p l∈p::l:=by
 intro l
 induction l generalizing p with
 | nil=>simp [gX]
 | cons y l ih =>
  unfold gX;have:=ih (if y<p then y else p);split at this<;>split<;>simp_all<;>grind
theorem WJ (p:Rat):∀ l:List Rat,dN p l∈p::l:=by
 intro l
 induction l generalizing p with
 | nil=>simp [dN]
 | cons y l ih =>
  unfold dN;have:=ih (if p<y then y else p);split at this<;>split<;>simp_all<;>grind
theorem au0 {P:Program} {c:Code} {Q:Exit→Act→World→Prop} {a:Act} {w:World} (F:Act→Nat→Nat→Act) (R:Nat→Nat→World→Prop) (h:c.wp P (fun e a' w'=>e= .normal∧∃ x y,a'=F a x y∧R x y w') a w) (k:∀ x y w',R x y w'→Q .normal (F a x y) w'):c.wp P Q a w :=
 Code.wp_mono (fun e a' w' ⟨h1,x,y,h2,h3⟩=>by
  subst h1 h2;exact k _ _ _ h3) h
def Hold (w wr:World) (b:Nat) (q:Rat):Prop:=∃ bn pn ln cn bd pd ld cd,ah wr b #[.bool bn,.slice pn ln cn,.bool bd,.slice pd ld cd] 163∧Ra w (.agg #[.bool bn,.slice pn ln cn,.bool bd,.slice pd ld cd]) q
theorem xO (v:Value) (p:Rat) (l:List Rat) (n1:Nat) (w:World) (h:zG w v (p::l)) (hn:l.length+1=n1) (hn2:n1≤1000) (hs:∀ q∈p::l,gZ 30 q) :
  Calls Tryz.prog 217 #[v] w (fun e w'=>e= .returned (aY (jh (gX p l) (dN p l)))∧Below w.heap.size w w'):=by
 obtain ⟨a,cap,rfl, -, hc1,hread⟩:=zG.at h
 have H:Hid (∀ k,k<n1→∃ b off bn pn ln cn bd pd ld cd,a=some ⟨b,off,none⟩∧b<w.heap.size∧w.cell? ⟨b,off+k*4,none⟩=some (.bool bn)∧w.cell? ⟨b,off+k*4+1,none⟩=some (.slice pn ln cn)∧w.cell? ⟨b,off+k*4+2,none⟩=some (.bool bd)∧w.cell? ⟨b,off+k*4+3,none⟩=some (.slice pd ld cd) ∧
   Ra w (.agg #[.bool bn,.slice pn ln cn,.bool bd,.slice pd ld cd]) ((p::l).getD k 0)):=zh fun k hk=>by
  have hk2:k<(p::l).length:=by simp;omega
  have:=hread k hk2;rw [show (p::l)[k]=(p::l).getD k 0 by rw [List.getD_eq_getElem?_getD,List.getElem?_eq_getElem hk2];rfl] at this;exact this
 have SZ:Hid (∀ k,k<n1→gZ 30 ((p::l).getD k 0)):=zh fun k hk=>by
  have hk2:k<(p::l).length:=by simp;omega
  rw [show (p::l).getD k 0=(p::l)[k] by rw [List.getD_eq_getElem?_getD,List.getElem?_eq_getElem hk2];rfl];exact hs _ (List.getElem_mem hk2)
 have SL:Hid (∀ k,gZ 30 (gX p (l.take k))):=zh fun k=>hs _ (by
  have:=Zl p (l.take k);simp only [List.mem_cons] at this ⊢;exact this.imp id (fun h=>List.mem_of_mem_take h))
 have SH:Hid (∀ k,gZ 30 (dN p (l.take k))):=zh fun k=>hs _ (by
  have:=WJ p (l.take k);simp only [List.mem_cons] at this ⊢;exact this.imp id (fun h=>List.mem_of_mem_take h))
 have LS:Hid (∀ k,k+1<n1→gX p (l.take (k+1))=if (p::l).getD (k+1) 0<gX p (l.take k) then (p::l).getD (k+1) 0 else gX p (l.take k)):=zh fun k hk=>by
  have hk2:k<l.length:=by omega
  rw [List.take_succ_eq_append_getElem hk2,Wy];simp [hk2]
 have HS:Hid (∀ k,k+1<n1→dN p (l.take (k+1))=if dN p (l.take k)<(p::l).getD (k+1) 0 then (p::l).getD (k+1) 0 else dN p (l.take k)):=zh fun k hk=>by
  have hk2:k<l.length:=by omega
  rw [List.take_succ_eq_append_getElem hk2,QD];simp [hk2]
 have HE:Hid (l.take (n1 - 1)=l):=zh (List.take_of_length_le zo);have h0:0<n1:=by omega
 have e0:(p::l).length=n1:=by simp [hn]
 rw [e0];have TG:=zh (fun v v' W (h:Ra W v (gX p l)) (h':Ra W v' (dN p l))=>zy v v' _ _ W h h' (by have:=SL.out (n1 - 1);rw [HE.out] at this;exact this.mono zo) (by have:=SH.out (n1 - 1);rw [HE.out] at this;exact this.mono zo));obtain ⟨e1,e2,ek,ex⟩:=oz (jh (gX p l) (dN p l));rw [ex] at TG ⊢;unfold aY at TG ⊢;have G0:Hid ((p::l).getD 0 0=p):=zh rfl;obtain ⟨g,Eg⟩:∃ g:Nat→Rat,g=fun k=>(p::l).getD k 0:=⟨_,rfl⟩;have eg:∀ k,(p::l).getD k 0=g k:=fun k=>by rw [Eg]
 simp only [eg] at H SZ LS HS G0;obtain ⟨b,off,bn,pn,ln,cn,bd,pd,ld,cd,rfl,hbl,k1,k2,k3,k4,hra⟩:=H.out 0 h0;rw [Nat.zero_mul,Nat.add_zero] at k1 k2 k3 k4;rw [G0.out] at hra;have R0:=zh hra;clear hread hs h ex e0 hn eg Eg G0 hra;go_enter Tryz.func217,Tryz.ntmps217
 go_wp2_with fail
 obtain ⟨u0,EW,hz,HR⟩:=wO w #[.int .i64 0,.int .i64 0] 40;rw [EW];have hlr:=HR.out.lt;have d1:=(hz.cell (p:=⟨b,off,none⟩) hbl).trans k1;have d2:=(hz.cell (p:=⟨b,off+1,none⟩) hbl).trans k2;have d3:=(hz.cell (p:=⟨b,off+2,none⟩) hbl).trans k3;have d4:=(hz.cell (p:=⟨b,off+3,none⟩) hbl).trans k4;have l1:b<u0.heap.size:=Nat.lt_of_lt_of_le hbl hz.size;clear EW k1 k2 k3 k4
 refine au0 (fun a q r=>(((((((a.put (some 7) (.slice (some ⟨b,off,none⟩) n1 cap)).put (some 8) (.pointer (some ⟨b,off,none⟩))).put (some 9) (.agg #[.bool bn,.slice pn ln cn,.bool bd,.slice pd ld cd])).put (some 10) (.slice (some ⟨b,off,none⟩) n1 cap)).put (some 11) (.pointer (some ⟨b,off,none⟩))).put (some 12) (.agg #[.bool bn,.slice pn ln cn,.bool bd,.slice pd ld cd])).put (some 4) (.pointer (some ⟨q,0,none⟩))).put (some 5) (.pointer (some ⟨r,0,none⟩))) (fun q r W=>w.heap.size<q∧w.heap.size<r∧q≠r∧ah W q #[.bool bn,.slice pn ln cn,.bool bd,.slice pd ld cd] 163∧ah W r #[.bool bn,.slice pn ln cn,.bool bd,.slice pd ld cd] 163∧ah W w.heap.size #[.int .i64 0,.int .i64 0] 40∧Below w.heap.size w W) ?rg ?tl
 case rg =>
  refine av1 zk (ah8 5 8 zd (Mw [(.pure,0),(.pure,1),(.read,2),(.pure,3),(.pure,4),(.read,5),(.alloc #[.bool false,.slice none 0 0,.bool false,.slice none 0 0] 163,6),(.alloc #[.bool false,.slice none 0 0,.bool false,.slice none 0 0] 163,7),(.fin,8),(.fin,9)] zk zR (fun _ _ _ _ _ h=>by cases h.1) (zL _ _ _ _ _ _ _ (Wk.out ?o1))) (Mw [(.pure,0),(.pure,1),(.read,2),(.pure,3),(.pure,4),(.alloc #[.bool false,.slice none 0 0,.bool false,.slice none 0 0] 163,6),(.alloc #[.bool false,.slice none 0 0,.bool false,.slice none 0 0] 163,7),(.fin,8),(.fin,5),(.fin,9)] zk zR (fun _ _ _ _ _ h=>by cases h.1) (zL _ _ _ _ _ _ _ (Wk.out ?o2))))
  case o1 =>
   refine zS ?_;refine xX rfl (fun q wg hbg hq1 hq2 hq3 OZ=>?_);go_simp;replace OZ:ah wg q #[.bool false,.slice none 0 0,.bool false,.slice none 0 0] 163:=OZ;refine xX rfl (fun r wk hbk hr1 hr2 hr3 hx8=>?_);go_simp;replace hx8:ah wk r #[.bool false,.slice none 0 0,.bool false,.slice none 0 0] 163:=hx8;refine wS [_,_] rfl (fun wh Pg=>?_);have hne:q≠r:=by simp at hr3;omega
   have hne2:r≠q:=fun e=>hne e.symm;have hd:Below u0.heap.size u0 wh:=Bt (Bt (Bt aD hbg) hbk) Pg;have hL:=(OZ.later hbk).later Pg;have hH:=hx8.later Pg;have Pf:w.heap.size<q:=by omega
   have hgr:w.heap.size<r:=by omega
   have nq:w.heap.size≠q:=by omega
   have nr:w.heap.size≠r:=by omega
   have bq:b≠q:=by omega
   have bq2:q≠b:=by omega
   have cL:=hL.cell;have fL:=hL.free;have cH:=hH.cell;have fH:=hH.free;have d5:=(hd.cell (p:=⟨b,off,none⟩) l1).trans d1;have d6:=(hd.cell (p:=⟨b,off+1,none⟩) l1).trans d2;have d7:=(hd.cell (p:=⟨b,off+2,none⟩) l1).trans d3;have d8:=(hd.cell (p:=⟨b,off+3,none⟩) l1).trans d4;have l2:b<wh.heap.size:=Nat.lt_of_lt_of_le l1 hd.size;clear d1 d2 d3 d4 OZ hx8 hbg hbk Pg;go_wp2_with fail
   refine ⟨q,r,?_,Pf,hgr,hne,
    (((((((((hL.set 0 (.bool bn)).set 1 (.slice pn ln cn)).set 2 (.bool bd)).set 3 (.slice pd ld cd)).setOther (a:=⟨r,0,none⟩) (.bool bn) hne).setOther (a:=⟨r,1,none⟩) (.slice pn ln cn) hne).setOther (a:=⟨r,2,none⟩) (.bool bd) hne).setOther (a:=⟨r,3,none⟩) (.slice pd ld cd) hne)),
    (((((((((hH.setOther (a:=⟨q,0,none⟩) (.bool bn) hne2).setOther (a:=⟨q,1,none⟩) (.slice pn ln cn) hne2).setOther (a:=⟨q,2,none⟩) (.bool bd) hne2).setOther (a:=⟨q,3,none⟩) (.slice pd ld cd) hne2).set 0 (.bool bn)).set 1 (.slice pn ln cn)).set 2 (.bool bd)).set 3 (.slice pd ld cd))),
    ((((((((HR.out.later hd).setOther (a:=⟨q,0,none⟩) (.bool bn) nq).setOther (a:=⟨q,1,none⟩) (.slice pn ln cn) nq).setOther (a:=⟨q,2,none⟩) (.bool bd) nq).setOther (a:=⟨q,3,none⟩) (.slice pd ld cd) nq).setOther (a:=⟨r,0,none⟩) (.bool bn) nr).setOther (a:=⟨r,1,none⟩) (.slice pn ln cn) nr).setOther (a:=⟨r,2,none⟩) (.bool bd) nr).setOther (a:=⟨r,3,none⟩) (.slice pd ld cd) nr,
    ((((((((Bt hz hd).setCell (p:=⟨q,0,none⟩) (Nat.le_of_lt Pf) (.bool bn)).setCell (p:=⟨q,1,none⟩) (Nat.le_of_lt Pf) (.slice pn ln cn)).setCell (p:=⟨q,2,none⟩) (Nat.le_of_lt Pf) (.bool bd)).setCell (p:=⟨q,3,none⟩) (Nat.le_of_lt Pf) (.slice pd ld cd)).setCell (p:=⟨r,0,none⟩) (Nat.le_of_lt hgr) (.bool bn)).setCell (p:=⟨r,1,none⟩) (Nat.le_of_lt hgr) (.slice pn ln cn)).setCell (p:=⟨r,2,none⟩) (Nat.le_of_lt hgr) (.bool bd)).setCell (p:=⟨r,3,none⟩) (Nat.le_of_lt hgr) (.slice pd ld cd)⟩
   exact ⟨rfl,rfl⟩
  case o2 =>
   refine zS ?_;refine xX rfl (fun q wg hbg hq1 hq2 hq3 OZ=>?_);go_simp;replace OZ:ah wg q #[.bool false,.slice none 0 0,.bool false,.slice none 0 0] 163:=OZ;refine xX rfl (fun r wk hbk hr1 hr2 hr3 hx8=>?_);go_simp;replace hx8:ah wk r #[.bool false,.slice none 0 0,.bool false,.slice none 0 0] 163:=hx8;refine wS [_,_,_] rfl (fun wh Pg=>?_);have hne:q≠r:=by simp at hr3;omega
   have hne2:r≠q:=fun e=>hne e.symm;have hd:Below u0.heap.size u0 wh:=Bt (Bt (Bt aD hbg) hbk) Pg;have hL:=(OZ.later hbk).later Pg;have hH:=hx8.later Pg;have Pf:w.heap.size<q:=by omega
   have hgr:w.heap.size<r:=by omega
   have nq:w.heap.size≠q:=by omega
   have nr:w.heap.size≠r:=by omega
   have bq:b≠q:=by omega
   have bq2:q≠b:=by omega
   have cL:=hL.cell;have fL:=hL.free;have cH:=hH.cell;have fH:=hH.free;have d5:=(hd.cell (p:=⟨b,off,none⟩) l1).trans d1;have d6:=(hd.cell (p:=⟨b,off+1,none⟩) l1).trans d2;have d7:=(hd.cell (p:=⟨b,off+2,none⟩) l1).trans d3;have d8:=(hd.cell (p:=⟨b,off+3,none⟩) l1).trans d4;have l2:b<wh.heap.size:=Nat.lt_of_lt_of_le l1 hd.size;clear d1 d2 d3 d4 OZ hx8 hbg hbk Pg;go_wp2_with fail
   refine ⟨q,r,?_,Pf,hgr,hne,
    (((((((((hL.set 0 (.bool bn)).set 1 (.slice pn ln cn)).set 2 (.bool bd)).set 3 (.slice pd ld cd)).setOther (a:=⟨r,0,none⟩) (.bool bn) hne).setOther (a:=⟨r,1,none⟩) (.slice pn ln cn) hne).setOther (a:=⟨r,2,none⟩) (.bool bd) hne).setOther (a:=⟨r,3,none⟩) (.slice pd ld cd) hne)),
    (((((((((hH.setOther (a:=⟨q,0,none⟩) (.bool bn) hne2).setOther (a:=⟨q,1,none⟩) (.slice pn ln cn) hne2).setOther (a:=⟨q,2,none⟩) (.bool bd) hne2).setOther (a:=⟨q,3,none⟩) (.slice pd ld cd) hne2).set 0 (.bool bn)).set 1 (.slice pn ln cn)).set 2 (.bool bd)).set 3 (.slice pd ld cd))),
    ((((((((HR.out.later hd).setOther (a:=⟨q,0,none⟩) (.bool bn) nq).setOther (a:=⟨q,1,none⟩) (.slice pn ln cn) nq).setOther (a:=⟨q,2,none⟩) (.bool bd) nq).setOther (a:=⟨q,3,none⟩) (.slice pd ld cd) nq).setOther (a:=⟨r,0,none⟩) (.bool bn) nr).setOther (a:=⟨r,1,none⟩) (.slice pn ln cn) nr).setOther (a:=⟨r,2,none⟩) (.bool bd) nr).setOther (a:=⟨r,3,none⟩) (.slice pd ld cd) nr,
    ((((((((Bt hz hd).setCell (p:=⟨q,0,none⟩) (Nat.le_of_lt Pf) (.bool bn)).setCell (p:=⟨q,1,none⟩) (Nat.le_of_lt Pf) (.slice pn ln cn)).setCell (p:=⟨q,2,none⟩) (Nat.le_of_lt Pf) (.bool bd)).setCell (p:=⟨q,3,none⟩) (Nat.le_of_lt Pf) (.slice pd ld cd)).setCell (p:=⟨r,0,none⟩) (Nat.le_of_lt hgr) (.bool bn)).setCell (p:=⟨r,1,none⟩) (Nat.le_of_lt hgr) (.slice pn ln cn)).setCell (p:=⟨r,2,none⟩) (Nat.le_of_lt hgr) (.bool bd)).setCell (p:=⟨r,3,none⟩) (Nat.le_of_lt hgr) (.slice pd ld cd)⟩
   exact ⟨rfl,rfl⟩
 case tl =>
  intro q r W9 ⟨Pf,hgr,hne,g1,g2,g3,g4⟩;have hne2:r≠q:=fun e=>hne e.symm;have nq:w.heap.size≠q:=by omega
  have nr:w.heap.size≠r:=by omega
  have HLO:Hid (Hold w W9 q (gX p (l.take 0))):=zh ⟨_,_,_,_,_,_,_,_,g1,R0.out⟩;have HHI:Hid (Hold w W9 r (dN p (l.take 0))):=zh ⟨_,_,_,_,_,_,_,_,g2,R0.out⟩;have HB0:=zh g4;replace HR:=zh g3;clear g1 g2 g3 g4 hz l1 hlr hbl R0 d1 d2 d3 d4;go_wp2_with fail
  go_loopw [6] (fun iv wr=>∃ m:Nat,iv= .int .i64 (m:Int)∧1≤m∧m≤n1∧Hid (Below w.heap.size w wr)∧Hid (Hold w wr q (gX p (l.take (m - 1))))∧Hid (Hold w wr r (dN p (l.take (m - 1))))∧Hid (ah wr w.heap.size #[.int .i64 0,.int .i64 0] 40)) (fun iv _=>n1 - (intOf iv).toNat)
  case atStart=>exact ⟨1,rfl,by omega,by omega,HB0,HLO,HHI,HR⟩
  case round =>
   obtain ⟨m,rfl,hm1,hm2,HB,HL,HH,HQ⟩:=hrel;clear HB0 HLO HHI HR
   rcases Nat.lt_or_ge m n1 with hlt|hge
   ·obtain ⟨b2,off2,xn,Lh,Lj,Lm,xd,Li,Ll,Lp,e,hbl,k1,k2,k3,k4,hra⟩:=H.out m hlt;simp only [Option.some.injEq,Addr.mk.injEq,and_true] at e;obtain ⟨rfl,rfl⟩:=e;have hstep:=LS.out (m - 1) zo;have hstep2:=HS.out (m - 1) zo;rw [show m - 1+1=m by omega] at hstep hstep2;have sx:=SZ.out m hlt;have sl:=SL.out (m - 1);have sh:=SH.out (m - 1);obtain ⟨yn,ypn,yln,ycn,yd,ypd,yld,ycd,ZQ,hlo⟩:=HL.out;obtain ⟨zn,zpn,zln,zcn,zd,zpd,zld,zcd,Pg,hhi⟩:=HH.out;have RX:=zh hra;have RL:=zh hlo;have RH:=zh hhi;have BL:=zh ZQ;have BH:=zh Pg;have O1:=zh (fun v v' W (h:Ra W v (g m)) (h':Ra W v' (gX p (l.take (m - 1))))=>aC.iI v v' _ _ W h h' (sx.mono zo) (sl.mono zo));have O2:=zh (fun v v' W (h:Ra W v (g m)) (h':Ra W v' (dN p (l.take (m - 1))))=>aC.iI v v' _ _ W h h' (sx.mono zo) (sh.mono zo));have KC:=zh (And.intro k1 (And.intro k2 (And.intro k3 k4)))
    clear hra hlo hhi ZQ Pg sx sl sh k1 k2 k3 k4;generalize g m=X at *;generalize gX p (l.take (m - 1))=LO at *;generalize dN p (l.take (m - 1))=HI at *;unfold pJ at O1 O2;have HM:=zh (And.intro hstep hstep2);clear hstep hstep2 HL HH
    by_cases h1:X<LO
    ·rw [if_pos h1] at O1;go_wp2_with fail
     have cBL:=BL.out.cell;have lBL:=BL.out.lt;have hbw:=HB.out;have d1:=(hbw.cell (p:=⟨b,off+m*4,none⟩) hbl).trans KC.out.1;have d2:=(hbw.cell (p:=⟨b,off+m*4+1,none⟩) hbl).trans KC.out.2.1;have d3:=(hbw.cell (p:=⟨b,off+m*4+2,none⟩) hbl).trans KC.out.2.2.1;have d4:=(hbw.cell (p:=⟨b,off+m*4+3,none⟩) hbl).trans KC.out.2.2.2;have l1:b<wr.heap.size:=Nat.lt_of_lt_of_le hbl hbw.size;refine aF [(.pure,0),(.pure,1),(.pure,2),(.read,3),(.read,4),(.ext,5),(.pure,6)] zk zk zR zP ?_;refine Wk.out ?_;refine zS ?_;clear cBL lBL;clear hbw d1 d2 d3 d4 l1;refine dV rfl rfl (fun we hbe J hJ=>?_);go_simp;have hx:Below wr.heap.size wr we:=aD;refine (O1.out _ _ _ (RX.out.later (Bt HB.out hx)) (RL.out.later (Bt HB.out hx))).mono ?_;rintro e wy ⟨rfl,h⟩;have hy:=Bt hx h;refine hJ _ _ h ?_;clear hJ J hbe hx h;refine zS ?_;refine mo (fun wa hbf=>?_)
     have hy2:Below wr.heap.size wr wa:=Bt hy aD;replace BL:=zh (BL.out.later hy2);replace BH:=zh (BH.out.later hy2);replace HQ:=zh (HQ.out.later hy2);replace HB:=zh (Bt HB.out hy2);clear hy hy2 hbf;have cBL:=BL.out.cell;have fBL:=BL.out.free;have hbw:=HB.out;have d1:=(hbw.cell (p:=⟨b,off+m*4,none⟩) hbl).trans KC.out.1;have d2:=(hbw.cell (p:=⟨b,off+m*4+1,none⟩) hbl).trans KC.out.2.1;have d3:=(hbw.cell (p:=⟨b,off+m*4+2,none⟩) hbl).trans KC.out.2.2.1;have d4:=(hbw.cell (p:=⟨b,off+m*4+3,none⟩) hbl).trans KC.out.2.2.2;have l1:b<wa.heap.size:=Nat.lt_of_lt_of_le hbl hbw.size;go_wp2_with fail
     clear cBL fBL;clear hbw d1 d2 d3 d4 l1;obtain ⟨wb,EW⟩:∃ y,(((wa.setCell ⟨q,0,none⟩ (.bool xn)).setCell ⟨q,1,none⟩ (.slice Lh Lj Lm)).setCell ⟨q,2,none⟩ (.bool xd)).setCell ⟨q,3,none⟩ (.slice Li Ll Lp)=y:=⟨_,rfl⟩;have t:=(((BL.out.set 0 (.bool xn)).set 1 (.slice Lh Lj Lm)).set 2 (.bool xd)).set 3 (.slice Li Ll Lp);rw [EW] at t;replace BL:Hid (ah wb q #[.bool xn,.slice Lh Lj Lm,.bool xd,.slice Li Ll Lp] 163):=zh t;clear t;have t:=(((BH.out.setOther (a:=⟨q,0,none⟩) (.bool xn) hne2).setOther (a:=⟨q,1,none⟩) (.slice Lh Lj Lm) hne2).setOther (a:=⟨q,2,none⟩) (.bool xd) hne2).setOther (a:=⟨q,3,none⟩) (.slice Li Ll Lp) hne2;rw [EW] at t;replace BH:=zh t;clear t;have t:=(((HQ.out.setOther (a:=⟨q,0,none⟩) (.bool xn) nq).setOther (a:=⟨q,1,none⟩) (.slice Lh Lj Lm) nq).setOther (a:=⟨q,2,none⟩) (.bool xd) nq).setOther (a:=⟨q,3,none⟩) (.slice Li Ll Lp) nq;rw [EW] at t
     replace HQ:=zh t;clear t;have t:=(((HB.out.setCell (p:=⟨q,0,none⟩) (Nat.le_of_lt Pf) (.bool xn)).setCell (p:=⟨q,1,none⟩) (Nat.le_of_lt Pf) (.slice Lh Lj Lm)).setCell (p:=⟨q,2,none⟩) (Nat.le_of_lt Pf) (.bool xd)).setCell (p:=⟨q,3,none⟩) (Nat.le_of_lt Pf) (.slice Li Ll Lp);rw [EW] at t;replace HB:=zh t;clear t;rw [EW];clear EW
     by_cases h2:HI<X
     ·rw [if_neg (by grind),if_pos h2] at O2;have cBH:=BH.out.cell;have lBH:=BH.out.lt;have hbw:=HB.out;have d1:=(hbw.cell (p:=⟨b,off+m*4,none⟩) hbl).trans KC.out.1;have d2:=(hbw.cell (p:=⟨b,off+m*4+1,none⟩) hbl).trans KC.out.2.1;have d3:=(hbw.cell (p:=⟨b,off+m*4+2,none⟩) hbl).trans KC.out.2.2.1;have d4:=(hbw.cell (p:=⟨b,off+m*4+3,none⟩) hbl).trans KC.out.2.2.2;have l1:b<wb.heap.size:=Nat.lt_of_lt_of_le hbl hbw.size;refine aF [(.pure,0),(.pure,1),(.pure,2),(.read,3),(.read,4),(.ext,5),(.pure,6)] zk zk zR zP ?_;refine Wk.out ?_;refine zS ?_;clear cBH lBH;clear hbw d1 d2 d3 d4 l1;refine dV rfl rfl (fun we hbe J hJ=>?_);go_simp;have hx:Below wb.heap.size wb we:=aD;refine (O2.out _ _ _ (RX.out.later (Bt HB.out hx)) (RH.out.later (Bt HB.out hx))).mono ?_;rintro e wy ⟨rfl,h⟩;have hy:=Bt hx h;refine hJ _ _ h ?_;clear hJ J hbe hx h;refine zS ?_;refine mo (fun wc hbf=>?_)
      have hy2:Below wb.heap.size wb wc:=Bt hy aD;replace BL:=zh (BL.out.later hy2);replace BH:=zh (BH.out.later hy2);replace HQ:=zh (HQ.out.later hy2);replace HB:=zh (Bt HB.out hy2);clear hy hy2 hbf;have cBH:=BH.out.cell;have fBH:=BH.out.free;have hbw:=HB.out;have d1:=(hbw.cell (p:=⟨b,off+m*4,none⟩) hbl).trans KC.out.1;have d2:=(hbw.cell (p:=⟨b,off+m*4+1,none⟩) hbl).trans KC.out.2.1;have d3:=(hbw.cell (p:=⟨b,off+m*4+2,none⟩) hbl).trans KC.out.2.2.1;have d4:=(hbw.cell (p:=⟨b,off+m*4+3,none⟩) hbl).trans KC.out.2.2.2;have l1:b<wc.heap.size:=Nat.lt_of_lt_of_le hbl hbw.size;go_wp2_with fail
      clear cBH fBH;clear hbw d1 d2 d3 d4 l1;obtain ⟨wd,EW⟩:∃ y,(((wc.setCell ⟨r,0,none⟩ (.bool xn)).setCell ⟨r,1,none⟩ (.slice Lh Lj Lm)).setCell ⟨r,2,none⟩ (.bool xd)).setCell ⟨r,3,none⟩ (.slice Li Ll Lp)=y:=⟨_,rfl⟩;have t:=(((BH.out.set 0 (.bool xn)).set 1 (.slice Lh Lj Lm)).set 2 (.bool xd)).set 3 (.slice Li Ll Lp);rw [EW] at t;replace BH:Hid (ah wd r #[.bool xn,.slice Lh Lj Lm,.bool xd,.slice Li Ll Lp] 163):=zh t;clear t;have t:=(((BL.out.setOther (a:=⟨r,0,none⟩) (.bool xn) hne).setOther (a:=⟨r,1,none⟩) (.slice Lh Lj Lm) hne).setOther (a:=⟨r,2,none⟩) (.bool xd) hne).setOther (a:=⟨r,3,none⟩) (.slice Li Ll Lp) hne;rw [EW] at t;replace BL:=zh t;clear t;have t:=(((HQ.out.setOther (a:=⟨r,0,none⟩) (.bool xn) nr).setOther (a:=⟨r,1,none⟩) (.slice Lh Lj Lm) nr).setOther (a:=⟨r,2,none⟩) (.bool xd) nr).setOther (a:=⟨r,3,none⟩) (.slice Li Ll Lp) nr;rw [EW] at t
      replace HQ:=zh t;clear t;have t:=(((HB.out.setCell (p:=⟨r,0,none⟩) (Nat.le_of_lt hgr) (.bool xn)).setCell (p:=⟨r,1,none⟩) (Nat.le_of_lt hgr) (.slice Lh Lj Lm)).setCell (p:=⟨r,2,none⟩) (Nat.le_of_lt hgr) (.bool xd)).setCell (p:=⟨r,3,none⟩) (Nat.le_of_lt hgr) (.slice Li Ll Lp);rw [EW] at t;replace HB:=zh t;clear t;rw [EW];clear EW;go_roundw
      case rel=>exact ⟨m+1,by go_num,by omega,by omega,HB,zh (by rw [Nat.add_sub_cancel,HM.out.1,if_pos h1];exact ⟨_,_,_,_,_,_,_,_,BL.out,RX.out⟩),zh (by rw [Nat.add_sub_cancel,HM.out.2,if_pos h2];exact ⟨_,_,_,_,_,_,_,_,BH.out,RX.out⟩),HQ⟩
      case measure=>simp [intOf]<;>omega
     ·have ho3:∃ o:Int,(if X<HI then (-1:Int) else if HI<X then 1 else 0)=o∧decide (0<o)=false:=⟨_,rfl,by rw [if_neg h2];split<;>rfl⟩;obtain ⟨o2,ho4,ho5⟩:=ho3;rw [ho4] at O2;clear ho4;have cBH:=BH.out.cell;have lBH:=BH.out.lt;have hbw:=HB.out;have d1:=(hbw.cell (p:=⟨b,off+m*4,none⟩) hbl).trans KC.out.1;have d2:=(hbw.cell (p:=⟨b,off+m*4+1,none⟩) hbl).trans KC.out.2.1;have d3:=(hbw.cell (p:=⟨b,off+m*4+2,none⟩) hbl).trans KC.out.2.2.1;have d4:=(hbw.cell (p:=⟨b,off+m*4+3,none⟩) hbl).trans KC.out.2.2.2;have l1:b<wb.heap.size:=Nat.lt_of_lt_of_le hbl hbw.size;refine aF [(.pure,0),(.pure,1),(.pure,2),(.read,3),(.read,4),(.ext,5),(.pure,6)] zk zk zR zP ?_;refine Wk.out ?_;refine zS ?_;clear cBH lBH;clear hbw d1 d2 d3 d4 l1;refine dV rfl rfl (fun we hbe J hJ=>?_);go_simp;have hx:Below wb.heap.size wb we:=aD
      refine (O2.out _ _ _ (RX.out.later (Bt HB.out hx)) (RH.out.later (Bt HB.out hx))).mono ?_;rintro e wy ⟨rfl,h⟩;have hy:=Bt hx h;refine hJ _ _ h ?_;clear hJ J hbe hx h;refine zS ?_;refine mo (fun wc hbf=>?_);have hy2:Below wb.heap.size wb wc:=Bt hy aD;replace BL:=zh (BL.out.later hy2);replace BH:=zh (BH.out.later hy2);replace HQ:=zh (HQ.out.later hy2);replace HB:=zh (Bt HB.out hy2);clear hy hy2 hbf;go_wp2_with fail
      go_roundw
      case rel=>exact ⟨m+1,by go_num,by omega,by omega,HB,zh (by rw [Nat.add_sub_cancel,HM.out.1,if_pos h1];exact ⟨_,_,_,_,_,_,_,_,BL.out,RX.out⟩),zh (by rw [Nat.add_sub_cancel,HM.out.2,if_neg h2];exact ⟨_,_,_,_,_,_,_,_,BH.out,RH.out⟩),HQ⟩
      case measure=>simp [intOf]<;>omega
   
    ·rw [if_neg h1] at O1;obtain ⟨o1,ho1,ho2⟩:∃ o:Int,(if LO<X then (1:Int) else 0)=o∧decide (o<0)=false:=⟨_,rfl,by split<;>rfl⟩;rw [ho1] at O1;clear ho1;go_wp2_with fail
     have cBL:=BL.out.cell;have lBL:=BL.out.lt;have hbw:=HB.out;have d1:=(hbw.cell (p:=⟨b,off+m*4,none⟩) hbl).trans KC.out.1;have d2:=(hbw.cell (p:=⟨b,off+m*4+1,none⟩) hbl).trans KC.out.2.1;have d3:=(hbw.cell (p:=⟨b,off+m*4+2,none⟩) hbl).trans KC.out.2.2.1;have d4:=(hbw.cell (p:=⟨b,off+m*4+3,none⟩) hbl).trans KC.out.2.2.2;have l1:b<wr.heap.size:=Nat.lt_of_lt_of_le hbl hbw.size;refine aF [(.pure,0),(.pure,1),(.pure,2),(.read,3),(.read,4),(.ext,5),(.pure,6)] zk zk zR zP ?_;refine Wk.out ?_;refine zS ?_;clear cBL lBL;clear hbw d1 d2 d3 d4 l1;refine dV rfl rfl (fun we hbe J hJ=>?_);go_simp;have hx:Below wr.heap.size wr we:=aD;refine (O1.out _ _ _ (RX.out.later (Bt HB.out hx)) (RL.out.later (Bt HB.out hx))).mono ?_;rintro e wy ⟨rfl,h⟩;have hy:=Bt hx h;refine hJ _ _ h ?_;clear hJ J hbe hx h;refine zS ?_;refine mo (fun wa hbf=>?_)
     have hy2:Below wr.heap.size wr wa:=Bt hy aD;replace BL:=zh (BL.out.later hy2);replace BH:=zh (BH.out.later hy2);replace HQ:=zh (HQ.out.later hy2);replace HB:=zh (Bt HB.out hy2);clear hy hy2 hbf;go_wp2_with fail
     by_cases h2:HI<X
     ·rw [if_neg (by grind),if_pos h2] at O2;have cBH:=BH.out.cell;have lBH:=BH.out.lt;have hbw:=HB.out;have d1:=(hbw.cell (p:=⟨b,off+m*4,none⟩) hbl).trans KC.out.1;have d2:=(hbw.cell (p:=⟨b,off+m*4+1,none⟩) hbl).trans KC.out.2.1;have d3:=(hbw.cell (p:=⟨b,off+m*4+2,none⟩) hbl).trans KC.out.2.2.1;have d4:=(hbw.cell (p:=⟨b,off+m*4+3,none⟩) hbl).trans KC.out.2.2.2;have l1:b<wa.heap.size:=Nat.lt_of_lt_of_le hbl hbw.size;refine aF [(.pure,0),(.pure,1),(.pure,2),(.read,3),(.read,4),(.ext,5),(.pure,6)] zk zk zR zP ?_;refine Wk.out ?_;refine zS ?_;clear cBH lBH;clear hbw d1 d2 d3 d4 l1;refine dV rfl rfl (fun we hbe J hJ=>?_);go_simp;have hx:Below wa.heap.size wa we:=aD;refine (O2.out _ _ _ (RX.out.later (Bt HB.out hx)) (RH.out.later (Bt HB.out hx))).mono ?_;rintro e wy ⟨rfl,h⟩;have hy:=Bt hx h;refine hJ _ _ h ?_;clear hJ J hbe hx h;refine zS ?_;refine mo (fun wc hbf=>?_)
      have hy2:Below wa.heap.size wa wc:=Bt hy aD;replace BL:=zh (BL.out.later hy2);replace BH:=zh (BH.out.later hy2);replace HQ:=zh (HQ.out.later hy2);replace HB:=zh (Bt HB.out hy2);clear hy hy2 hbf;have cBH:=BH.out.cell;have fBH:=BH.out.free;have hbw:=HB.out;have d1:=(hbw.cell (p:=⟨b,off+m*4,none⟩) hbl).trans KC.out.1;have d2:=(hbw.cell (p:=⟨b,off+m*4+1,none⟩) hbl).trans KC.out.2.1;have d3:=(hbw.cell (p:=⟨b,off+m*4+2,none⟩) hbl).trans KC.out.2.2.1;have d4:=(hbw.cell (p:=⟨b,off+m*4+3,none⟩) hbl).trans KC.out.2.2.2;have l1:b<wc.heap.size:=Nat.lt_of_lt_of_le hbl hbw.size;go_wp2_with fail
      clear cBH fBH;clear hbw d1 d2 d3 d4 l1;obtain ⟨wd,EW⟩:∃ y,(((wc.setCell ⟨r,0,none⟩ (.bool xn)).setCell ⟨r,1,none⟩ (.slice Lh Lj Lm)).setCell ⟨r,2,none⟩ (.bool xd)).setCell ⟨r,3,none⟩ (.slice Li Ll Lp)=y:=⟨_,rfl⟩;have t:=(((BH.out.set 0 (.bool xn)).set 1 (.slice Lh Lj Lm)).set 2 (.bool xd)).set 3 (.slice Li Ll Lp);rw [EW] at t;replace BH:Hid (ah wd r #[.bool xn,.slice Lh Lj Lm,.bool xd,.slice Li Ll Lp] 163):=zh t;clear t;have t:=(((BL.out.setOther (a:=⟨r,0,none⟩) (.bool xn) hne).setOther (a:=⟨r,1,none⟩) (.slice Lh Lj Lm) hne).setOther (a:=⟨r,2,none⟩) (.bool xd) hne).setOther (a:=⟨r,3,none⟩) (.slice Li Ll Lp) hne;rw [EW] at t;replace BL:=zh t;clear t;have t:=(((HQ.out.setOther (a:=⟨r,0,none⟩) (.bool xn) nr).setOther (a:=⟨r,1,none⟩) (.slice Lh Lj Lm) nr).setOther (a:=⟨r,2,none⟩) (.bool xd) nr).setOther (a:=⟨r,3,none⟩) (.slice Li Ll Lp) nr;rw [EW] at t
      replace HQ:=zh t;clear t;have t:=(((HB.out.setCell (p:=⟨r,0,none⟩) (Nat.le_of_lt hgr) (.bool xn)).setCell (p:=⟨r,1,none⟩) (Nat.le_of_lt hgr) (.slice Lh Lj Lm)).setCell (p:=⟨r,2,none⟩) (Nat.le_of_lt hgr) (.bool xd)).setCell (p:=⟨r,3,none⟩) (Nat.le_of_lt hgr) (.slice Li Ll Lp);rw [EW] at t;replace HB:=zh t;clear t;rw [EW];clear EW;go_roundw
      case rel=>exact ⟨m+1,by go_num,by omega,by omega,HB,zh (by rw [Nat.add_sub_cancel,HM.out.1,if_neg h1];exact ⟨_,_,_,_,_,_,_,_,BL.out,RL.out⟩),zh (by rw [Nat.add_sub_cancel,HM.out.2,if_pos h2];exact ⟨_,_,_,_,_,_,_,_,BH.out,RX.out⟩),HQ⟩
      case measure=>simp [intOf]<;>omega
     ·have ho3:∃ o:Int,(if X<HI then (-1:Int) else if HI<X then 1 else 0)=o∧decide (0<o)=false:=⟨_,rfl,by rw [if_neg h2];split<;>rfl⟩;obtain ⟨o2,ho4,ho5⟩:=ho3;rw [ho4] at O2;clear ho4;have cBH:=BH.out.cell;have lBH:=BH.out.lt;have hbw:=HB.out;have d1:=(hbw.cell (p:=⟨b,off+m*4,none⟩) hbl).trans KC.out.1;have d2:=(hbw.cell (p:=⟨b,off+m*4+1,none⟩) hbl).trans KC.out.2.1;have d3:=(hbw.cell (p:=⟨b,off+m*4+2,none⟩) hbl).trans KC.out.2.2.1;have d4:=(hbw.cell (p:=⟨b,off+m*4+3,none⟩) hbl).trans KC.out.2.2.2;have l1:b<wa.heap.size:=Nat.lt_of_lt_of_le hbl hbw.size;refine aF [(.pure,0),(.pure,1),(.pure,2),(.read,3),(.read,4),(.ext,5),(.pure,6)] zk zk zR zP ?_;refine Wk.out ?_;refine zS ?_;clear cBH lBH;clear hbw d1 d2 d3 d4 l1;refine dV rfl rfl (fun we hbe J hJ=>?_);go_simp;have hx:Below wa.heap.size wa we:=aD
      refine (O2.out _ _ _ (RX.out.later (Bt HB.out hx)) (RH.out.later (Bt HB.out hx))).mono ?_;rintro e wy ⟨rfl,h⟩;have hy:=Bt hx h;refine hJ _ _ h ?_;clear hJ J hbe hx h;refine zS ?_;refine mo (fun wc hbf=>?_);have hy2:Below wa.heap.size wa wc:=Bt hy aD;replace BL:=zh (BL.out.later hy2);replace BH:=zh (BH.out.later hy2);replace HQ:=zh (HQ.out.later hy2);replace HB:=zh (Bt HB.out hy2);clear hy hy2 hbf;go_wp2_with fail
      go_roundw
      case rel=>exact ⟨m+1,by go_num,by omega,by omega,HB,zh (by rw [Nat.add_sub_cancel,HM.out.1,if_neg h1];exact ⟨_,_,_,_,_,_,_,_,BL.out,RL.out⟩),zh (by rw [Nat.add_sub_cancel,HM.out.2,if_neg h2];exact ⟨_,_,_,_,_,_,_,_,BH.out,RH.out⟩),HQ⟩
      case measure=>simp [intOf]<;>omega
   ·obtain rfl:m=n1:=by omega
    rw [HE.out] at HL HH;obtain ⟨yn,ypn,yln,ycn,yd,ypd,yld,ycd,ZQ,hlo⟩:=HL.out;obtain ⟨zn,zpn,zln,zcn,zd,zpd,zld,zcd,Pg,hhi⟩:=HH.out;have cl:=ZQ.cell;have ll:=ZQ.lt;have ch:=Pg.cell;have lh:=Pg.lt;go_wp2_with fail
    refine (TG.out _ _ _ (hlo.later HB.out) (hhi.later HB.out)).mono ?_;rintro e wy ⟨rfl,h⟩;have hr:=HQ.out.later h;have hb:=Bt HB.out h;have cr:=hr.cell;have fr:=hr.free;clear cl ll ch lh ZQ Pg h;go_wp2_with fail
    refine aM rfl rfl ((hr.set 0 _).set 1 _) Tryz.underlying40 rfl zk ?_;exact ⟨rfl,(hb.setCell (p:=⟨w.heap.size,0,none⟩) (Nat.le_refl _) _).setCell (p:=⟨w.heap.size,1,none⟩) (Nat.le_refl _) _⟩
end Go.Proofs.aN
namespace Go.Proofs.aN
open Go Go.RowKit Go.SW Go.Num Go.Mem Go.Proofs Go.Dec Go.fF Go.Proofs.aW Go.Proofs.aC Go.Proofs.au Go.Proofs.jf Go.Fx
theorem ap4 (x y z t:Int) (w:World) (h:¬ (dY x y=true∧dY z t=true)):Calls Tryz.prog 185 #[.agg #[.int .i64 x,.int .i64 y],.agg #[.int .i64 z,.int .i64 t]] w (fun e w'=>e= .returned (aY ((0,0),30))∧Below w.heap.size w w'):=by
 have R1:=fun W=>dG x y W;have R2:=fun W=>dG z t W;cases h1:dY x y
 ·rw [h1] at R1;refine Fx.door Tryz.func185 rfl (.nil w []) ?_;refine Fx.new [] 2 #[.int .i64 x,.int .i64 y] 40 [] [] fun dW=>?_;refine Fx.new [] 3 #[.int .i64 z,.int .i64 t] 40 [] [] fun dM=>?_;refine Fx.aL [] 4 40 [] [] fun dP=>?_;refine Fx.aO [3] 12 [] [] R1 ?_;exact Fx.dw 2 dP [0,0,1,5] [(2,#[.int .i64 0,.int .i64 0])] (fun W M=>⟨rfl,M.below⟩)
 ·have h2:dY z t=false:=by
   cases h2:dY z t
   ·rfl
   ·exact absurd ⟨h1,h2⟩ h
  rw [h1] at R1;rw [h2] at R2;refine Fx.door Tryz.func185 rfl (.nil w []) ?_;refine Fx.new [] 2 #[.int .i64 x,.int .i64 y] 40 [] [] fun dW=>?_;refine Fx.new [] 3 #[.int .i64 z,.int .i64 t] 40 [] [] fun dM=>?_;refine Fx.aL [] 4 40 [] [] fun dP=>?_;refine Fx.aO [3] 12 [] [] R1 ?_;refine Fx.aO [4] 16 [(14,.bool false)] [] R2 ?_;exact Fx.dw 2 dP [1,5] [(2,#[.int .i64 0,.int .i64 0])] (fun W M=>⟨rfl,M.below⟩)
def prods (a b:Int × Int):List Rat:=[un a.1*un b.1,un a.1*un b.2,un a.2*un b.1,un a.2*un b.2]
def sel (a:Int × Int) (k:Nat):Int:=if k=0 then a.1 else a.2
theorem Qa (a b:Int × Int) {k j:Nat} (hk:k<2) (hj:j<2):(prods a b).take (2*k+(j+1))=(prods a b).take (2*k+j)++[un (sel a k)*un (sel b j)]:=by
 have h1:k=0∨k=1:=by omega
 have h2:j=0∨j=1:=by omega
 rcases h1 with rfl|rfl<;>rcases h2 with rfl|rfl<;>rfl
theorem JJ (a:Int × Int) {k:Nat} (hk:k<2) (W:World):(Instr.index 199 (.agg #[.int .i64 a.1,.int .i64 a.2]) (.int .i64 (k:Int))).run Tryz.prog W= .ok (.int .i64 (sel a k)) W:=by
 have h1:k=0∨k=1:=by omega
 rcases h1 with rfl|rfl
 ·show _=_;kernel_rfl
 ·show _=_;kernel_rfl
theorem ae5 (x y z t:Int) (w:World) (h1:dY x y=true) (h2:dY z t=true):Calls Tryz.prog 185 #[.agg #[.int .i64 x,.int .i64 y],.agg #[.int .i64 z,.int .i64 t]] w (fun e w'=>e= .returned (aY (JF (x,y) (z,t)))∧Below w.heap.size w w'):=by
  obtain ⟨i0,hi,hz0,hz1,hz2⟩:=info_parts ZA;have R1:=zh (fun W=>h1 ▸ dG x y W);have R2:=zh (fun W=>h2 ▸ dG z t W);obtain ⟨b1,b2,b3⟩:=qH h1;obtain ⟨b4,b5,b6⟩:=qH h2;have bs:∀ k, -9223372036854775808≤sel (x,y) k∧sel (x,y) k≤9223372036854775807:=fun k=>by unfold sel;split<;>simp only<;>omega
  have cs:∀ k, -9223372036854775808≤sel (z,t) k∧sel (z,t) k≤9223372036854775807:=fun k=>by unfold sel;split<;>simp only<;>omega
  have V1:=zh (fun k W=>gI (sel (x,y) k) (bs k).1 (bs k).2 W);have V2:=zh (fun k W=>gI (sel (z,t) k) (cs k).1 (cs k).2 W);have s1:=fun k=>pO (sel (x,y) k) (bs k).1 (bs k).2;have s2:=fun k=>pO (sel (z,t) k) (cs k).1 (cs k).2;have T1:=zh (fun k j v v' W (h:Ra W v (un (sel (x,y) k))) (h':Ra W v' (un (sel (z,t) j)))=>(gN v v' _ _ W h h' ((s1 k).mono zo) ((s2 j).mono zo)).mono fun _ _ q=>iK q)
  have sp:∀ q∈prods (x,y) (z,t),gZ 30 q:=fun q hq=>by
   unfold prods at hq;simp only [List.mem_cons,List.not_mem_nil,or_false] at hq
   rcases hq with rfl|rfl|rfl|rfl
   ·exact (jT (s1 0) (s2 0)).mono zo
   ·exact (jT (s1 0) (s2 1)).mono zo
   ·exact (jT (s1 1) (s2 0)).mono zo
   ·exact (jT (s1 1) (s2 1)).mono zo
  have BT:Hid (∀ v W,zG W v (prods (x,y) (z,t))→Calls Tryz.prog 217 #[v] W (fun e w'=>e= .returned (aY (JF (x,y) (z,t)))∧Below W.heap.size W w')):=zh fun v W h=>by
   have:=xO v (un x*un z) [un x*un t,un y*un z,un y*un t] 4 W h rfl zo sp;rw [show gX (un x*un z) [un x*un t,un y*un z,un y*un t]=gX (un (x,y).1*un (z,t).1) [un (x,y).1*un (z,t).2,un (x,y).2*un (z,t).1,un (x,y).2*un (z,t).2] from rfl,show dN (un x*un z) [un x*un t,un y*un z,un y*un t]=dN (un (x,y).1*un (z,t).1) [un (x,y).1*un (z,t).2,un (x,y).2*un (z,t).1,un (x,y).2*un (z,t).2] from rfl,Vp] at this;exact this
  have I1:=zh (fun k (hk:k<2) W=>JJ (x,y) hk W);have I2:=zh (fun k (hk:k<2) W=>JJ (z,t) hk W);have PT:=zh (fun k j (hk:k<2) (hj:j<2)=>Qa (x,y) (z,t) hk hj);have PL:Hid ((prods (x,y) (z,t)).length=4):=zh rfl;obtain ⟨e1,e2,ek,ex⟩:=oz (JF (x,y) (z,t));rw [ex] at BT ⊢;unfold aY at BT ⊢;generalize prods (x,y) (z,t)=P at *;clear h1 h2 b1 b2 b3 b4 b5 b6 bs cs s1 s2 sp ex;go_enter Tryz.func185,Tryz.ntmps185
  go_wp2_with fail
  obtain ⟨u0,EW,hz,HX,HY,HR⟩:=Ji w #[.int .i64 x,.int .i64 y] 40 #[.int .i64 z,.int .i64 t] 40 #[.int .i64 0,.int .i64 0] 40;rw [EW];have HB:=zh hz;clear EW hz;refine (R1.out _).mono ?_;rintro e u1 ⟨rfl,h⟩;replace HX:=zh (HX.out.later h);replace HY:=zh (HY.out.later h);replace HR:=zh (HR.out.later h);replace HB:=zh (Bt HB.out h);clear h;have cHY:=HY.out.cell;have lHY:=HY.out.lt;go_wp2_with fail
  clear cHY lHY;refine (R2.out _).mono ?_;rintro e u2 ⟨rfl,h⟩;replace HX:=zh (HX.out.later h);replace HY:=zh (HY.out.later h);replace HR:=zh (HR.out.later h);replace HB:=zh (Bt HB.out h);clear h;have wI:=HX.out.cell;have wG:=HX.out.lt;go_wp2_with fail
  clear wI wG;clear HX
  go_loopw [6,25] (fun ov iv wr=>∃ k:Nat,iv= .int .i64 (k:Int)∧k≤2∧Hid (jc wr u2.heap.size 163 4 Lc ov (P.take (2*k)))∧Below u2.heap.size u2 wr) (fun _ iv _=>2 - (intOf iv).toNat)
  case atStart=>exact ⟨0,rfl,by omega,zh (jc.nil _ _ _ _ _),Below.refl _ _⟩
  case round =>
   obtain ⟨k,rfl,hk,HG,hb⟩:=hrel
   rcases Nat.lt_or_ge k 2 with hlt|hge
   ·obtain ⟨ov,cv,rfl⟩:=HG.out.at (n:=2*k) (by rw [List.length_take,PL.out];omega);have hix:∀ W,(Instr.index 199 (.agg #[.int .i64 x,.int .i64 y]) (.int .i64 (k:Int))).run Tryz.prog W= .ok (.int .i64 (sel (x,y) k)) W:=I1.out k hlt;have hkk:(k:Int)<2:=by omega
    have VK:=zh (V1.out k);obtain ⟨X,hX⟩:∃ X,sel (x,y) k=X:=⟨_,rfl⟩;have TK:=zh (T1.out k);have PK:=zh (fun j=>PT.out k j hlt);rw [hX] at hix VK TK;simp only [hX] at PK;have hby:=HY.out.later hb;have cy:=hby.cell;have ly:=hby.lt;have HBo:=zh hb;clear hX hb;go_wp2_with fail
    clear cy ly hby hix hkk
    go_loopw [6,33] (fun ov iv wr=>∃ j:Nat,iv= .int .i64 (j:Int)∧j≤2∧Hid (jc wr u2.heap.size 163 4 Lc ov (P.take (2*k+j)))∧Below u2.heap.size u2 wr) (fun _ iv _=>2 - (intOf iv).toNat)
    case atStart=>exact ⟨0,rfl,by omega,HG,HBo.out⟩
    case round =>
     obtain ⟨j,rfl,hj,HG2,hbi⟩:=hrel
     rcases Nat.lt_or_ge j 2 with hjlt|aV1
     ·obtain ⟨ov2,cv2,rfl⟩:=HG2.out.at (n:=2*k+j) (by rw [List.length_take,PL.out];omega);have hix:∀ W,(Instr.index 199 (.agg #[.int .i64 z,.int .i64 t]) (.int .i64 (j:Int))).run Tryz.prog W= .ok (.int .i64 (sel (z,t) j)) W:=I2.out j hjlt;have hjj:(j:Int)<2:=by omega
      have VJ:=zh (V2.out j);have TJ:=zh (TK.out j);have PJ:=zh (PK.out j hjlt);obtain ⟨Y,hY⟩:∃ Y,sel (z,t) j=Y:=⟨_,rfl⟩;rw [hY] at hix VJ TJ PJ;have HB:=zh hbi;clear hbi hY;go_wp2_with fail
      clear hix hjj;have Gv:=zh (Below.refl wr.heap.size wr);refine (VK.out _).mono ?_;rintro e u11 ⟨v1,rfl,h,hm⟩;replace HB:=zh (Bt HB.out h);replace Gv:=zh (Bt Gv.out h);clear h;have F1:=zh hm;clear hm;go_wp2_with fail
      refine (VJ.out _).mono ?_;rintro e u12 ⟨v2,rfl,h,hm⟩;replace F1:=zh (F1.out.later h);replace HB:=zh (Bt HB.out h);replace Gv:=zh (Bt Gv.out h);clear h;have F2:=zh hm;clear hm;go_wp2_with fail
      refine (TJ.out _ _ _ F1.out F2.out).mono ?_;rintro e u13 ⟨bn,pn,ln,cn,bd,pd,ld,cd,rfl,h,hm⟩;replace F1:=zh (F1.out.later h);replace F2:=zh (F2.out.later h);replace HB:=zh (Bt HB.out h);replace Gv:=zh (Bt Gv.out h);clear h;have HA:=zh hm;clear hm;have HG3:=zh (HG2.out.later (show Below wr.heap.size wr u13 from by have:=Gv.out;exact this) (Lc.stay zi));clear HG2 F1 F2 Gv;go_wp2_with (at_builtin;refine Az (w0:=u2) rfl (.tmp 36) (.tmp 42) 226 rfl 163 i0 (.agg #[.bool false,.slice none 0 0,.bool false,.slice none 0 0]) 4 64 Tryz.underlying226 hi hz0 hz1 hz2 rfl zd Lc _ (P.take (2*k+j)) rfl (HG3.out.later aD (Lc.stay zi)) (Bt HB.out aD) _ [.bool bn,.slice pn ln cn,.bool bd,.slice pd ld cd] (un X*un Y) rfl (ah.new _ _ _) rfl ?c1 ⟨_,_,_,_,_,_,_,_,rfl,HA.out.later aD⟩ (Lc.stay zi) ?c2 zo ?_)
      case c1=>intro u hu;simp only [List.mem_cons,List.not_mem_nil,or_false] at hu;rcases hu with rfl|rfl|rfl|rfl<;>rfl
      case c2=>rw [List.length_take,PL.out];omega
      intro v' w2 hg hb2 _;have HG4:Hid (jc w2 u2.heap.size 163 4 Lc v' (P.take (2*k+(j+1)))):=zh (by rw [PJ.out];exact hg);clear hg HG3 HB HA;go_wp2_with fail
      go_roundw
      case rel=>exact ⟨j+1,by go_num,by omega,HG4,hb2⟩
      case measure=>exact zM
     ·obtain rfl:j=2:=by omega
      go_wp2_with fail
      go_roundw
      case rel=>exact ⟨k+1,by go_num,by omega,HG2,hbi⟩
      case measure=>exact zM
   ·obtain rfl:k=2:=by omega
    have e:P.take (2*2)=P:=List.take_of_length_le (by rw [PL.out];omega);rw [e] at HG;have HV:Hid (zG wr _ _):=zh HG.out.slV;obtain ⟨ov,cv,rfl⟩:=HG.out.at (n:=4) PL.out;replace HB:=zh (Bt HB.out hb);replace HR:=zh (HR.out.later hb);clear HG hb HY;go_wp2_with fail
    refine (BT.out _ _ HV.out).mono ?_;rintro e wz ⟨rfl,h⟩;have hr:=HR.out.later h;have cr:=hr.cell;have fr:=hr.free;have hb:=Bt HB.out h;clear h;go_wp2_with fail

    refine aM rfl rfl ((hr.set 0 _).set 1 _) Tryz.underlying40 rfl zk ?_;exact ⟨rfl,(hb.setCell (p:=⟨w.heap.size+1+1,0,none⟩) (by show w.heap.size≤w.heap.size+1+1;omega) _).setCell (p:=⟨w.heap.size+1+1,1,none⟩) (by show w.heap.size≤w.heap.size+1+1;omega) _⟩
theorem qJ (a b:Int × Int) (w:World):Calls Tryz.prog 185 #[.agg #[.int .i64 a.1,.int .i64 a.2],.agg #[.int .i64 b.1,.int .i64 b.2]] w (fun e w'=>e= .returned (aY (aW.Qs a b))∧Below w.heap.size w w'):=by
 unfold aW.Qs okB;simp only [List.all_cons,List.all_nil,Bool.and_true]
 by_cases h:dY a.1 a.2=true∧dY b.1 b.2=true
 ·rw [if_pos (by simp [h.1,h.2])];exact ae5 _ _ _ _ w h.1 h.2
 ·rw [if_neg (by simpa using h)];exact ap4 _ _ _ _ w h
theorem LG {n:Int} (h:n≠0):un n≠0:=fun e=>by
 have h1:=LH n;rw [e,Rat.zero_mul] at h1;exact h (by exact_mod_cast h1.symm)
theorem yh {p q:Rat} (h:gZ 10 p) (k:gZ 10 q) (h0:q≠0):gZ 30 (p / q):=by
 rw [Rat.div_def];exact (jT h (JC k h0)).mono zo
theorem aq2 (x y z t:Int) (w:World) (h:¬ (dY x y=true∧dY z t=true)):Calls Tryz.prog 165 #[.agg #[.int .i64 x,.int .i64 y],.agg #[.int .i64 z,.int .i64 t]] w (fun e w'=>e= .returned (aY ((0,0),30))∧Below w.heap.size w w'):=by
 have R1:=fun W=>dG x y W;have R2:=fun W=>dG z t W;cases h1:dY x y
 ·rw [h1] at R1;refine Fx.door Tryz.func165 rfl (.nil w []) ?_;refine Fx.new [] 2 #[.int .i64 x,.int .i64 y] 40 [] [] fun dW=>?_;refine Fx.new [] 3 #[.int .i64 z,.int .i64 t] 40 [] [] fun dM=>?_;refine Fx.aL [] 4 40 [] [] fun dP=>?_;refine Fx.aO [3] 12 [] [] R1 ?_;exact Fx.dw 2 dP [0,0,1,5] [(2,#[.int .i64 0,.int .i64 0])] (fun W M=>⟨rfl,M.below⟩)
 ·have h2:dY z t=false:=by
   cases h2:dY z t
   ·rfl
   ·exact absurd ⟨h1,h2⟩ h
  rw [h1] at R1;rw [h2] at R2;refine Fx.door Tryz.func165 rfl (.nil w []) ?_;refine Fx.new [] 2 #[.int .i64 x,.int .i64 y] 40 [] [] fun dW=>?_;refine Fx.new [] 3 #[.int .i64 z,.int .i64 t] 40 [] [] fun dM=>?_;refine Fx.aL [] 4 40 [] [] fun dP=>?_;refine Fx.aO [3] 12 [] [] R1 ?_;refine Fx.aO [4] 16 [(14,.bool false)] [] R2 ?_;exact Fx.dw 2 dP [1,5] [(2,#[.int .i64 0,.int .i64 0])] (fun W M=>⟨rfl,M.below⟩)
def Dc (a b:Int × Int):List Rat:=[un a.1 / un b.1,un a.1 / un b.2,un a.2 / un b.1,un a.2 / un b.2]
theorem PV (a b:Int × Int) {k j:Nat} (hk:k<2) (hj:j<2):(Dc a b).take (2*k+(j+1))=(Dc a b).take (2*k+j)++[un (sel a k) / un (sel b j)]:=by
 have h1:k=0∨k=1:=by omega
 have h2:j=0∨j=1:=by omega
 rcases h1 with rfl|rfl<;>rcases h2 with rfl|rfl<;>rfl
theorem af3 (x y z t:Int) (w:World) (h1:dY x y=true) (h2:dY z t=true) (hn:¬ (z≤0∧0≤t)):Calls Tryz.prog 165 #[.agg #[.int .i64 x,.int .i64 y],.agg #[.int .i64 z,.int .i64 t]] w (fun e w'=>e= .returned (aY (qp (fun x y up=>jQ x 1000000000000 y up) (x,y) (z,t)))∧Below w.heap.size w w'):=by
  obtain ⟨i0,hi,hz0,hz1,hz2⟩:=info_parts ZA;have n1:z≠0:=fun e=>hn ⟨by omega,by have:=(qH h2).2.1;omega⟩;have n2:t≠0:=fun e=>hn ⟨by have:=(qH h2).2.1;omega,by omega⟩;have hs0:∀ j,sel (z,t) j≠0:=fun j=>by unfold sel;split<;>assumption
  have R1:=zh (fun W=>h1 ▸ dG x y W);have R2:=zh (fun W=>h2 ▸ dG z t W);obtain ⟨b1,b2,b3⟩:=qH h1;obtain ⟨b4,b5,b6⟩:=qH h2;have bs:∀ k, -9223372036854775808≤sel (x,y) k∧sel (x,y) k≤9223372036854775807:=fun k=>by unfold sel;split<;>simp only<;>omega
  have cs:∀ k, -9223372036854775808≤sel (z,t) k∧sel (z,t) k≤9223372036854775807:=fun k=>by unfold sel;split<;>simp only<;>omega
  have V1:=zh (fun k W=>gI (sel (x,y) k) (bs k).1 (bs k).2 W);have V2:=zh (fun k W=>gI (sel (z,t) k) (cs k).1 (cs k).2 W);have s1:=fun k=>pO (sel (x,y) k) (bs k).1 (bs k).2;have s2:=fun k=>pO (sel (z,t) k) (cs k).1 (cs k).2;have T1:=zh (fun k j v v' W (h:Ra W v (un (sel (x,y) k))) (h':Ra W v' (un (sel (z,t) j)))=>(UW v v' _ _ W h h' ((s1 k).mono zo) ((s2 j).mono zo) (LG (hs0 j))).mono fun _ _ q=>iK q)
  have sp:∀ q∈Dc (x,y) (z,t),gZ 30 q:=fun q hq=>by
   unfold Dc at hq;simp only [List.mem_cons,List.not_mem_nil,or_false] at hq
   rcases hq with rfl|rfl|rfl|rfl
   ·exact yh (s1 0) (s2 0) (LG (hs0 0))
   ·exact yh (s1 0) (s2 1) (LG (hs0 1))
   ·exact yh (s1 1) (s2 0) (LG (hs0 0))
   ·exact yh (s1 1) (s2 1) (LG (hs0 1))
  have BT:Hid (∀ v W,zG W v (Dc (x,y) (z,t))→Calls Tryz.prog 217 #[v] W (fun e w'=>e= .returned (aY (qp (fun x y up=>jQ x 1000000000000 y up) (x,y) (z,t)))∧Below W.heap.size W w')):=zh fun v W h=>by
   have:=xO v (un x / un z) [un x / un t,un y / un z,un y / un t] 4 W h rfl zo sp;rw [show gX (un x / un z) [un x / un t,un y / un z,un y / un t]=gX (un (x,y).1 / un (z,t).1) [un (x,y).1 / un (z,t).2,un (x,y).2 / un (z,t).1,un (x,y).2 / un (z,t).2] from rfl,show dN (un x / un z) [un x / un t,un y / un z,un y / un t]=dN (un (x,y).1 / un (z,t).1) [un (x,y).1 / un (z,t).2,un (x,y).2 / un (z,t).1,un (x,y).2 / un (z,t).2] from rfl,Vq (x,y) (z,t) n1 n2] at this;exact this
  have I1:=zh (fun k (hk:k<2) W=>JJ (x,y) hk W);have I2:=zh (fun k (hk:k<2) W=>JJ (z,t) hk W);have PT:=zh (fun k j (hk:k<2) (hj:j<2)=>PV (x,y) (z,t) hk hj);have PL:Hid ((Dc (x,y) (z,t)).length=4):=zh rfl;obtain ⟨e1,e2,ek,ex⟩:=oz (qp (fun x y up=>jQ x 1000000000000 y up) (x,y) (z,t));rw [ex] at BT ⊢;unfold aY at BT ⊢;generalize Dc (x,y) (z,t)=P at *;clear h1 h2 b1 b2 b3 b4 b5 b6 bs cs s1 s2 sp ex n1 n2 hs0;have g:(¬ z≤0)∨(z≤0∧¬ 0≤t):=by omega
  clear hn
  rcases g with g1|⟨g1,g2⟩
  all_goals
   go_enter Tryz.func165,Tryz.ntmps165
   go_wp2_with fail
   obtain ⟨u0,EW,hz,HX,HY,HR⟩:=Ji w #[.int .i64 x,.int .i64 y] 40 #[.int .i64 z,.int .i64 t] 40 #[.int .i64 0,.int .i64 0] 40;rw [EW];have HB:=zh hz;clear EW hz;refine (R1.out _).mono ?_;rintro e u1 ⟨rfl,h⟩;replace HX:=zh (HX.out.later h);replace HY:=zh (HY.out.later h);replace HR:=zh (HR.out.later h);replace HB:=zh (Bt HB.out h);clear h;have cHY:=HY.out.cell;have lHY:=HY.out.lt;go_wp2_with fail
   clear cHY lHY;refine (R2.out _).mono ?_;rintro e u2 ⟨rfl,h⟩;replace HX:=zh (HX.out.later h);replace HY:=zh (HY.out.later h);replace HR:=zh (HR.out.later h);replace HB:=zh (Bt HB.out h);clear h;obtain ⟨wI,wG⟩:=HX.cl;obtain ⟨cHY,lHY⟩:=HY.cl;go_wp2_with fail
   clear wI wG cHY lHY;clear HX
   go_loopw [6,34] (fun ov iv wr=>∃ k:Nat,iv= .int .i64 (k:Int)∧k≤2∧Hid (jc wr u2.heap.size 163 4 Lc ov (P.take (2*k)))∧Below u2.heap.size u2 wr) (fun _ iv _=>2 - (intOf iv).toNat)
   case atStart=>exact ⟨0,rfl,by omega,zh (jc.nil _ _ _ _ _),Below.refl _ _⟩
   case round =>
    obtain ⟨k,rfl,hk,HG,hb⟩:=hrel
    rcases Nat.lt_or_ge k 2 with hlt|hge
    ·obtain ⟨ov,cv,rfl⟩:=HG.out.at (n:=2*k) (by rw [List.length_take,PL.out];omega);have hix:∀ W,(Instr.index 199 (.agg #[.int .i64 x,.int .i64 y]) (.int .i64 (k:Int))).run Tryz.prog W= .ok (.int .i64 (sel (x,y) k)) W:=I1.out k hlt;have hkk:(k:Int)<2:=by omega
     have VK:=zh (V1.out k);obtain ⟨X,hX⟩:∃ X,sel (x,y) k=X:=⟨_,rfl⟩;have TK:=zh (T1.out k);have PK:=zh (fun j=>PT.out k j hlt);rw [hX] at hix VK TK;simp only [hX] at PK;have hby:=HY.out.later hb;have cy:=hby.cell;have ly:=hby.lt;have HBo:=zh hb;clear hX hb;go_wp2_with fail
     clear cy ly hby hix hkk
     go_loopw [6,42] (fun ov iv wr=>∃ j:Nat,iv= .int .i64 (j:Int)∧j≤2∧Hid (jc wr u2.heap.size 163 4 Lc ov (P.take (2*k+j)))∧Below u2.heap.size u2 wr) (fun _ iv _=>2 - (intOf iv).toNat)
     case atStart=>exact ⟨0,rfl,by omega,HG,HBo.out⟩
     case round =>
      obtain ⟨j,rfl,hj,HG2,hbi⟩:=hrel
      rcases Nat.lt_or_ge j 2 with hjlt|aV1
      ·obtain ⟨ov2,cv2,rfl⟩:=HG2.out.at (n:=2*k+j) (by rw [List.length_take,PL.out];omega);have hix:∀ W,(Instr.index 199 (.agg #[.int .i64 z,.int .i64 t]) (.int .i64 (j:Int))).run Tryz.prog W= .ok (.int .i64 (sel (z,t) j)) W:=I2.out j hjlt;have hjj:(j:Int)<2:=by omega
       have VJ:=zh (V2.out j);have TJ:=zh (TK.out j);have PJ:=zh (PK.out j hjlt);obtain ⟨Y,hY⟩:∃ Y,sel (z,t) j=Y:=⟨_,rfl⟩;rw [hY] at hix VJ TJ PJ;have HB:=zh hbi;clear hbi hY;go_wp2_with fail
       clear hix hjj;have Gv:=zh (Below.refl wr.heap.size wr);refine (VK.out _).mono ?_;rintro e u11 ⟨v1,rfl,h,hm⟩;replace HB:=zh (Bt HB.out h);replace Gv:=zh (Bt Gv.out h);clear h;have F1:=zh hm;clear hm;go_wp2_with fail
       refine (VJ.out _).mono ?_;rintro e u12 ⟨v2,rfl,h,hm⟩;replace F1:=zh (F1.out.later h);replace HB:=zh (Bt HB.out h);replace Gv:=zh (Bt Gv.out h);clear h;have F2:=zh hm;clear hm;go_wp2_with fail
       refine (TJ.out _ _ _ F1.out F2.out).mono ?_;rintro e u13 ⟨bn,pn,ln,cn,bd,pd,ld,cd,rfl,h,hm⟩;replace F1:=zh (F1.out.later h);replace F2:=zh (F2.out.later h);replace HB:=zh (Bt HB.out h);replace Gv:=zh (Bt Gv.out h);clear h;have HA:=zh hm;clear hm;have HG3:=zh (HG2.out.later (show Below wr.heap.size wr u13 from by have:=Gv.out;exact this) (Lc.stay zi));clear HG2 F1 F2 Gv;go_wp2_with (at_builtin;refine Az (w0:=u2) rfl (.tmp 45) (.tmp 51) 226 rfl 163 i0 (.agg #[.bool false,.slice none 0 0,.bool false,.slice none 0 0]) 4 64 Tryz.underlying226 hi hz0 hz1 hz2 rfl zd Lc _ (P.take (2*k+j)) rfl (HG3.out.later aD (Lc.stay zi)) (Bt HB.out aD) _ [.bool bn,.slice pn ln cn,.bool bd,.slice pd ld cd] (un X / un Y) rfl (ah.new _ _ _) rfl ?c1 ⟨_,_,_,_,_,_,_,_,rfl,HA.out.later aD⟩ (Lc.stay zi) ?c2 zo ?_)
       case c1=>intro u hu;simp only [List.mem_cons,List.not_mem_nil,or_false] at hu;rcases hu with rfl|rfl|rfl|rfl<;>rfl
       case c2=>rw [List.length_take,PL.out];omega
       intro v' w2 hg hb2 _;have HG4:Hid (jc w2 u2.heap.size 163 4 Lc v' (P.take (2*k+(j+1)))):=zh (by rw [PJ.out];exact hg);clear hg HG3 HB HA;go_wp2_with fail
       go_roundw
       case rel=>exact ⟨j+1,by go_num,by omega,HG4,hb2⟩
       case measure=>exact zM
      ·obtain rfl:j=2:=by omega
       go_wp2_with fail
       go_roundw
       case rel=>exact ⟨k+1,by go_num,by omega,HG2,hbi⟩
       case measure=>exact zM
    ·obtain rfl:k=2:=by omega
     have e:P.take (2*2)=P:=List.take_of_length_le (by rw [PL.out];omega);rw [e] at HG;have HV:Hid (zG wr _ _):=zh HG.out.slV;obtain ⟨ov,cv,rfl⟩:=HG.out.at (n:=4) PL.out;replace HB:=zh (Bt HB.out hb);replace HR:=zh (HR.out.later hb);clear HG hb HY;go_wp2_with fail
     refine (BT.out _ _ HV.out).mono ?_;rintro e wz ⟨rfl,h⟩;have hr:=HR.out.later h;have cr:=hr.cell;have fr:=hr.free;have hb:=Bt HB.out h;clear h;go_wp2_with fail

     refine aM rfl rfl ((hr.set 0 _).set 1 _) Tryz.underlying40 rfl zk ?_;exact ⟨rfl,(hb.setCell (p:=⟨w.heap.size+1+1,0,none⟩) (by show w.heap.size≤w.heap.size+1+1;omega) _).setCell (p:=⟨w.heap.size+1+1,1,none⟩) (by show w.heap.size≤w.heap.size+1+1;omega) _⟩
theorem af2 (x y z t:Int) (w:World) (h1:dY x y=true) (h2:dY z t=true) (g1:z≤0) (g2:0≤t):Calls Tryz.prog 165 #[.agg #[.int .i64 x,.int .i64 y],.agg #[.int .i64 z,.int .i64 t]] w (fun e w'=>e= .returned (aY ((0,0),7))∧Below w.heap.size w w'):=by
 have R1:=zh (fun W=>h1 ▸ dG x y W);have R2:=zh (fun W=>h2 ▸ dG z t W);clear h1 h2;unfold aY;go_enter Tryz.func165,Tryz.ntmps165
 go_wp2_with fail
 obtain ⟨u0,EW,hz,HX,HY,HR⟩:=Ji w #[.int .i64 x,.int .i64 y] 40 #[.int .i64 z,.int .i64 t] 40 #[.int .i64 0,.int .i64 0] 40;rw [EW];have HB:=zh hz;clear EW hz;refine (R1.out _).mono ?_;rintro e u1 ⟨rfl,h⟩;replace HY:=HY.bl h;replace HR:=HR.bl h;replace HB:=zh (Bt HB.out h);clear h;obtain ⟨cHY,lHY⟩:=HY.cl;go_wp2_with fail
 clear cHY lHY;refine (R2.out _).mono ?_;rintro e u2 ⟨rfl,h⟩;replace HY:=HY.bl h;replace HR:=HR.bl h;replace HB:=zh (Bt HB.out h);clear h;obtain ⟨cHY,lHY⟩:=HY.cl;obtain ⟨cHR,lHR,fHR⟩:=HR.clf;go_wp2_with fail
 have hr:=HR.out;have hb:=HB.out;refine aM rfl rfl ((hr.set 0 _).set 1 _) Tryz.underlying40 rfl zk ?_;exact ⟨rfl,(hb.setCell (p:=⟨w.heap.size+1+1,0,none⟩) (by show w.heap.size≤w.heap.size+1+1;omega) _).setCell (p:=⟨w.heap.size+1+1,1,none⟩) (by show w.heap.size≤w.heap.size+1+1;omega) _⟩
theorem nJ (a b:Int × Int) (w:World):Calls Tryz.prog 165 #[.agg #[.int .i64 a.1,.int .i64 a.2],.agg #[.int .i64 b.1,.int .i64 b.2]] w (fun e w'=>e= .returned (aY (aW.Rf a b))∧Below w.heap.size w w'):=by
 unfold aW.Rf okB aW.an2;simp only [List.all_cons,List.all_nil,Bool.and_true]
 by_cases h:dY a.1 a.2=true∧dY b.1 b.2=true
 ·rw [if_pos (by simp [h.1,h.2])]
  by_cases hn:b.1≤0∧0≤b.2
  ·rw [if_pos hn];exact af2 _ _ _ _ w h.1 h.2 hn.1 hn.2
  ·rw [if_neg hn];exact af3 _ _ _ _ w h.1 h.2 hn
 ·rw [if_neg (by simpa using h)];exact aq2 _ _ _ _ w h
end Go.Proofs.aN
namespace Go.Proofs.bQ
open Go Go.RowKit Go.SW Go.Num Go.Mem Go.Proofs Go.fF Go.Fx
def got (E:Int) (r:(Int × Int) × Int):(Int × Int) × Int:=if E=0 then (if r.2=0 then (r.1,0) else ((0,0),r.2)) else ((0,0),E)
theorem ba5 (x y:Int) (b:Nat) (w:World) (X:ah w b #[.int .i64 0] 100) :
  Calls Tryz.prog 56 #[.pointer (some ⟨b,0,none⟩),.agg #[.int .i64 x,.int .i64 y],.int .i64 0] w (fun e w'=>e= .returned (.agg #[.int .i64 x,.int .i64 y])∧mh [b] w w'∧ah w' b #[.int .i64 0] 100):=by
 refine Fx.door Tryz.func56 rfl (.one X) ?_;refine Fx.new [] 4 #[.int .i64 x,.int .i64 y] 40 [] [] fun dW=>?_;refine Fx.aL [] 6 40 [] [] fun dM=>?_;exact Fx.fV 2 dM [3,1,3,3,2,4,5] [(0,#[.int .i64 0]),(2,#[.int .i64 x,.int .i64 y])] (fun W M=>⟨rfl,M.tK,M.box (b:=b) 0⟩)
theorem ba4 (x y k:Int) (hk:k≠0) (b:Nat) (w:World) (X:ah w b #[.int .i64 0] 100) :
  Calls Tryz.prog 56 #[.pointer (some ⟨b,0,none⟩),.agg #[.int .i64 x,.int .i64 y],.int .i64 k] w (fun e w'=>e= .returned (.agg #[.int .i64 0,.int .i64 0])∧mh [b] w w'∧ah w' b #[.int .i64 k] 100):=by
 refine Fx.door Tryz.func56 rfl (.one X) ?_;refine Fx.new [] 4 #[.int .i64 x,.int .i64 y] 40 [] [] fun dW=>?_;refine Fx.aL [] 6 40 [] [] fun dM=>?_;refine Fx.part 29 [3,1,3,3] [(20,.bool (!(k == 0)))] [(0,#[.int .i64 k])] ?_;refine Fx.jo true (by simp [hk]) ?_;exact Fx.fV 2 dM [1,5] [(2,#[.int .i64 0,.int .i64 0])] (fun W M=>⟨rfl,M.tK,M.box (b:=b) 0⟩)
theorem ba3 (x y k E:Int) (hk:E≠0) (b:Nat) (w:World) (X:ah w b #[.int .i64 E] 100) :
  Calls Tryz.prog 56 #[.pointer (some ⟨b,0,none⟩),.agg #[.int .i64 x,.int .i64 y],.int .i64 k] w (fun e w'=>e= .returned (.agg #[.int .i64 0,.int .i64 0])∧mh [b] w w'∧ah w' b #[.int .i64 E] 100):=by
 refine Fx.door Tryz.func56 rfl (.one X) ?_;refine Fx.new [] 4 #[.int .i64 x,.int .i64 y] 40 [] [] fun dW=>?_;refine Fx.aL [] 6 40 [] [] fun dM=>?_;refine Fx.part 10 [3] [(11,.bool (E == 0))] [] ?_;refine Fx.jo false (by simp [hk]) ?_;refine Fx.part 13 [2,3] [(20,.bool (!(E == 0)))] [] ?_;refine Fx.jo true (by simp [hk]) ?_;exact Fx.fV 2 dM [1,5] [(2,#[.int .i64 0,.int .i64 0])] (fun W M=>⟨rfl,M.tK,M.box (b:=b) 0⟩)
theorem wR {x y k E u v F:Int} (h:got E ((x,y),k)=((u,v),F)) {b:Nat} {w:World} (X:ah w b #[.int .i64 E] 100) :
  Calls Tryz.prog 56 #[.pointer (some ⟨b,0,none⟩),.agg #[.int .i64 x,.int .i64 y],.int .i64 k] w (fun e w'=>e= .returned (.agg #[.int .i64 u,.int .i64 v])∧mh [b] w w'∧ah w' b #[.int .i64 F] 100):=by
 unfold got at h;split at h
 ·rename_i h0;subst h0;split at h
  ·rename_i h1;cases h
   have h1':k=0:=h1;subst h1';exact ba5 x y b w X
  ·rename_i h1;cases h
   exact ba4 x y k h1 b w X
 ·rename_i h0;cases h
  exact ba3 x y k E h0 b w X
theorem af6 {E p q r s u v F:Int} (h:got E (aW.lg (p,q) (r,s))=((u,v),F)) {b:Nat} {w:World} (X:ah w b #[.int .i64 E] 100) :
  Calls Tryz.prog 111 #[.pointer (some ⟨b,0,none⟩),.agg #[.int .i64 p,.int .i64 q],.agg #[.int .i64 r,.int .i64 s]] w (fun e w'=>e= .returned (.agg #[.int .i64 u,.int .i64 v])∧mh [b] w w'∧ah w' b #[.int .i64 F] 100):=by
 obtain ⟨⟨⟨x,y⟩,k⟩,hr⟩:∃ z,aW.lg (p,q) (r,s)=z:=⟨_,rfl⟩;have C:=fun W=>aN.qM (p,q) (r,s) W;rw [hr] at C h;refine Fx.door Tryz.func111 rfl (.one X) ?_;refine Fx.new [] 4 #[.int .i64 p,.int .i64 q] 40 [] [] fun dW=>?_;refine Fx.new [] 5 #[.int .i64 r,.int .i64 s] 40 [] [] fun dM=>?_;refine Fx.aL [] 6 40 [] [] fun dP=>?_;refine Fx.aO [4,5] 12 [] [] C ?_;refine Fx.aL [] 7 40 [(13,.agg #[.int .i64 x,.int .i64 y]),(14,.int .i64 k)] [] fun xM=>?_;refine Fx.iw [7,7] 18 0 [] [(4,#[.int .i64 x,.int .i64 y])] (fun W M=>wR h (M.box (b:=b) 0)) ?_;exact Fx.fV 3 dP [6] [(3,#[.int .i64 u,.int .i64 v])] (fun W M=>⟨rfl,M.tK,M.box (b:=b) 0⟩)
theorem UR {E p q r s u v F:Int} (h:got E (aW.uh (p,q) (r,s))=((u,v),F)) {b:Nat} {w:World} (X:ah w b #[.int .i64 E] 100) :
  Calls Tryz.prog 58 #[.pointer (some ⟨b,0,none⟩),.agg #[.int .i64 p,.int .i64 q],.agg #[.int .i64 r,.int .i64 s]] w (fun e w'=>e= .returned (.agg #[.int .i64 u,.int .i64 v])∧mh [b] w w'∧ah w' b #[.int .i64 F] 100):=by
 obtain ⟨⟨⟨x,y⟩,k⟩,hr⟩:∃ z,aW.uh (p,q) (r,s)=z:=⟨_,rfl⟩;have C:=fun W=>aN.sN (p,q) (r,s) W;rw [hr] at C h;refine Fx.door Tryz.func58 rfl (.one X) ?_;refine Fx.new [] 4 #[.int .i64 p,.int .i64 q] 40 [] [] fun dW=>?_;refine Fx.new [] 5 #[.int .i64 r,.int .i64 s] 40 [] [] fun dM=>?_;refine Fx.aL [] 6 40 [] [] fun dP=>?_;refine Fx.aO [4,5] 12 [] [] C ?_;refine Fx.aL [] 7 40 [(13,.agg #[.int .i64 x,.int .i64 y]),(14,.int .i64 k)] [] fun xM=>?_;refine Fx.iw [7,7] 18 0 [] [(4,#[.int .i64 x,.int .i64 y])] (fun W M=>wR h (M.box (b:=b) 0)) ?_;exact Fx.fV 3 dP [6] [(3,#[.int .i64 u,.int .i64 v])] (fun W M=>⟨rfl,M.tK,M.box (b:=b) 0⟩)
theorem ae4 {E p q r s u v F:Int} (h:got E (aW.Qs (p,q) (r,s))=((u,v),F)) {b:Nat} {w:World} (X:ah w b #[.int .i64 E] 100) :
  Calls Tryz.prog 112 #[.pointer (some ⟨b,0,none⟩),.agg #[.int .i64 p,.int .i64 q],.agg #[.int .i64 r,.int .i64 s]] w (fun e w'=>e= .returned (.agg #[.int .i64 u,.int .i64 v])∧mh [b] w w'∧ah w' b #[.int .i64 F] 100):=by
 obtain ⟨⟨⟨x,y⟩,k⟩,hr⟩:∃ z,aW.Qs (p,q) (r,s)=z:=⟨_,rfl⟩;have C:=fun W=>aN.qJ (p,q) (r,s) W;rw [hr] at C h;refine Fx.door Tryz.func112 rfl (.one X) ?_;refine Fx.new [] 4 #[.int .i64 p,.int .i64 q] 40 [] [] fun dW=>?_;refine Fx.new [] 5 #[.int .i64 r,.int .i64 s] 40 [] [] fun dM=>?_;refine Fx.aL [] 6 40 [] [] fun dP=>?_;refine Fx.aO [4,5] 12 [] [] C ?_;refine Fx.aL [] 7 40 [(13,.agg #[.int .i64 x,.int .i64 y]),(14,.int .i64 k)] [] fun xM=>?_;refine Fx.iw [7,7] 18 0 [] [(4,#[.int .i64 x,.int .i64 y])] (fun W M=>wR h (M.box (b:=b) 0)) ?_;exact Fx.fV 3 dP [6] [(3,#[.int .i64 u,.int .i64 v])] (fun W M=>⟨rfl,M.tK,M.box (b:=b) 0⟩)
theorem OQ {E u v F:Int} {s t:ByteArray} (h:got E (aW.iC ⟨s,t⟩)=((u,v),F)) (hf:aC.Fits ⟨s,t⟩) {b:Nat} {w:World} (X:ah w b #[.int .i64 E] 100) :
  Calls Tryz.prog 67 #[.pointer (some ⟨b,0,none⟩),.agg #[.string s,.string t]] w (fun e w'=>e= .returned (.agg #[.int .i64 u,.int .i64 v])∧mh [b] w w'∧ah w' b #[.int .i64 F] 100):=by
 obtain ⟨⟨⟨x,y⟩,k⟩,hr⟩:∃ z,aW.iC ⟨s,t⟩=z:=⟨_,rfl⟩;have C:=fun W=>aN.Aw ⟨s,t⟩ W hf;rw [hr] at C h;refine Fx.door Tryz.func67 rfl (.one X) ?_;refine Fx.new [] 3 #[.string s,.string t] 32 [] [] fun dW=>?_;refine Fx.aL [] 4 40 [] [] fun dM=>?_;refine Fx.aO [4] 9 [] [] C ?_;refine Fx.aL [] 5 40 [(10,.agg #[.int .i64 x,.int .i64 y]),(11,.int .i64 k)] [] fun dP=>?_;refine Fx.iw [6,6] 15 0 [] [(3,#[.int .i64 x,.int .i64 y])] (fun W M=>wR h (M.box (b:=b) 0)) ?_;exact Fx.fV 2 dM [5] [(2,#[.int .i64 u,.int .i64 v])] (fun W M=>⟨rfl,M.tK,M.box (b:=b) 0⟩)
theorem aD2 {E p q r u v F:Int} (h:got E (power.PX p q 1 r)=((u,v),F)) {b:Nat} {w:World} (X:ah w b #[.int .i64 E] 100) :
  Calls Tryz.prog 137 #[.pointer (some ⟨b,0,none⟩),.agg #[.int .i64 p,.int .i64 q],.int .i64 r] w (fun e w'=>e= .returned (.agg #[.int .i64 u,.int .i64 v])∧mh [b] w w'∧ah w' b #[.int .i64 F] 100):=by
 obtain ⟨⟨⟨x,y⟩,k⟩,hr⟩:∃ z,power.PX p q 1 r=z:=⟨_,rfl⟩;have C:=fun W=>iD.zB p q r W;rw [hr] at C h;refine Fx.door Tryz.func137 rfl (.one X) ?_;refine Fx.new [] 4 #[.int .i64 p,.int .i64 q] 40 [] [] fun dW=>?_;refine Fx.aL [] 6 40 [] [] fun dM=>?_;refine Fx.aO [4] 12 [] [] C ?_;refine Fx.aL [] 7 40 [(13,.agg #[.int .i64 x,.int .i64 y]),(14,.int .i64 k)] [] fun dP=>?_;refine Fx.iw [6,6] 18 0 [] [(3,#[.int .i64 x,.int .i64 y])] (fun W M=>wR h (M.box (b:=b) 0)) ?_;exact Fx.fV 2 dM [5] [(2,#[.int .i64 u,.int .i64 v])] (fun W M=>⟨rfl,M.tK,M.box (b:=b) 0⟩)
end Go.Proofs.bQ
namespace Go.Proofs.aK
open Go Go.RowKit Go.SW Go.Num Go.Mem Go.Proofs Go.Dec Go.fF
theorem nG (n d:Int) (h1: -9223372036854775808≤n) (h2:n≤9223372036854775807) (h3: -9223372036854775808≤d) (h4:d≤9223372036854775807) (w:World) :
  Calls Tryz.prog 40 #[.int .i64 n,.int .i64 d] w (fun e w'=>e= .returned (qV n d).1.v∧Below w.heap.size w w'):=by
 have H1:=fun W=>aC.nG n d h1 h2 h3 h4 W;obtain ⟨⟨⟨s1,s2⟩,k⟩,E⟩:∃ y,qV n d=y:=⟨_,rfl⟩;rw [E] at H1 ⊢;refine Fx.door Tryz.func40 rfl (.nil w []) ?_;refine Fx.aL [] 4 32 [] [] fun dW=>?_;refine Fx.aO [] 10 [] [] H1 ?_;refine Fx.aL [] 5 32 [(11,.agg #[.string s1,.string s2]),(12,.int .i64 k)] [] fun dM=>?_;exact Fx.fV 0 dW [4,4,3] [(0,#[.string s1,.string s2]),(1,#[.string s1,.string s2])] (fun W M=>⟨rfl,M.below⟩)
theorem Zk {k:Nat} (h:4≤k):2000<ig k:=by
 unfold ig;have:=Nat.pow_le_pow_right (n:=10) zo h;omega
theorem YV {q:Rat} (h1:q.num.natAbs≤2000) (h2:q.den≤2000):vL q=true:=by
 have ht:2000<ig 600:=Zk zo;unfold vL jd;rw [Bool.and_eq_true];exact ⟨decide_eq_true zo,decide_eq_true zo⟩
theorem YX {n:Int} (h1:1≤n) (h2:n≤2000) (w:World):Calls Tryz.prog 40 #[.int .i64 n,.int .i64 1000] w (fun e w'=>e= .returned (Fr.of (bH.q2 n 1000)).v∧Below w.heap.size w w'):=by
 have h:=nG n 1000 zo zo zo zo w
 have e:(qV n 1000).1=Fr.of (bH.q2 n 1000):=by
  unfold qV wr bH.q2;rw [if_neg zo]
  have hk:vL ((n:Rat) / (1000:Int))=true:=by
   obtain ⟨l1,l2⟩:=aC.xD (n:=n) (d:=1000) zo;exact YV zo zo
  rw [if_pos hk]
 rw [e] at h;exact h
theorem Oz (a b c:Int) (ha:0≤a∧a≤65535) (hb:0≤b∧b≤65535) (hc:0≤c∧c≤65535) (w:World) :
  Calls Tryz.prog 12 #[.agg #[.int .u16 a,.int .u16 b,.int .u16 c]] w (fun e w'=>e= .returned (bH.tq (1+a%2000) (1+b%2000) (1+c%2000) 1000).v∧Below w.heap.size w w'):=by
 have H1:=fun W=>YX (n:=1+a%2000) zo zo W;have H2:=fun W=>YX (n:=1+b%2000) zo zo W;have H3:=fun W=>YX (n:=1+c%2000) zo zo W;have ta:=Int.tmod_eq_emod_of_nonneg (b:=2000) ha.1;have tb:=Int.tmod_eq_emod_of_nonneg (b:=2000) hb.1;have tc:=Int.tmod_eq_emod_of_nonneg (b:=2000) hc.1;rw [← ta,← tb,← tc];rw [← ta] at H1;rw [← tb] at H2;rw [← tc] at H3;obtain ⟨⟨⟨s1,t1⟩,⟨s2,t2⟩,⟨s3,t3⟩⟩,E⟩:∃ y,bH.tq (1+Int.tmod a 2000) (1+Int.tmod b 2000) (1+Int.tmod c 2000) 1000=y:=⟨_,rfl⟩;rw [E];unfold bH.tq at E
 injection E with E1 E2 E3
 rw [E1] at H1;rw [E2] at H2;rw [E3] at H3;refine Fx.door Tryz.func12 rfl (.nil w []) ?_;refine Fx.new [] 1 #[.int .u16 a,.int .u16 b,.int .u16 c] 24 [] [] fun dW=>?_;refine Fx.aL [] 2 34 [] [] fun dM=>?_;refine Fx.draw [] [0,1,2,3,4,6,7,8,9,10,12,13,14,15,16,5,11,17,18,19] [] [] [] ?_;refine Fx.part 3 [3] [(5,.int .i64 (IntKind.i64.wrap a))] [] ?_;refine Fx.zX (.int .i64 (a)) (Fx.wrap_i64 zo zo) ?_;refine Fx.part 2 [] [(7,.int .i64 (IntKind.i64.wrap (1+(Int.tmod (a) 2000))))] [] ?_;refine Fx.zX (.int .i64 (1+(Int.tmod (a) 2000))) (Fx.wrap_i64 zo zo) ?_;refine Fx.part 3 [3] [(11,.int .i64 (IntKind.i64.wrap b))] [] ?_;refine Fx.zX (.int .i64 (b)) (Fx.wrap_i64 zo zo) ?_;refine Fx.part 2 [] [(13,.int .i64 (IntKind.i64.wrap (1+(Int.tmod (b) 2000))))] [] ?_;refine Fx.zX (.int .i64 (1+(Int.tmod (b) 2000))) (Fx.wrap_i64 zo zo) ?_
 refine Fx.part 3 [3] [(17,.int .i64 (IntKind.i64.wrap c))] [] ?_;refine Fx.zX (.int .i64 (c)) (Fx.wrap_i64 zo zo) ?_;refine Fx.part 2 [] [(19,.int .i64 (IntKind.i64.wrap (1+(Int.tmod (c) 2000))))] [] ?_;refine Fx.zX (.int .i64 (1+(Int.tmod (c) 2000))) (Fx.wrap_i64 zo zo) ?_;refine Fx.aO [] 8 [] [] H1 ?_;refine Fx.aO [] 14 [] [] H2 ?_;refine Fx.aO [] 20 [] [] H3 ?_;exact Fx.fV 1 dM [4] [(1,#[.string s1,.string t1,.string s2,.string t2,.string s3,.string t3])] (fun W M=>⟨rfl,M.below⟩)
end Go.Proofs.aK
namespace Go.Proofs.aK
open Go Go.RowKit Go.SW Go.Num Go.Mem Go.Proofs Go.Dec Go.fF Go.Proofs.aC
theorem YD {w:World} {b:Nat} {v:Value} {T:TypeId} (h:ah w b #[v] T):w.setCell ⟨b,0,none⟩ v=w:=by
 have e:(w.setCell ⟨b,0,none⟩ v).heap=w.heap:=Array.ext_getElem? fun i=>by
  by_cases hi:i=b
  ·subst hi;have h2:=ah.set h 0 v;unfold ah at h h2;rw [h2,h];rfl
  ·exact uN _ _ hi
 have e2:w.setCell ⟨b,0,none⟩ v={ w with heap:=(w.setCell ⟨b,0,none⟩ v).heap }:=rfl
 rw [e2,e]
theorem Lg (b:Nat) (s t:ByteArray) (w:World) (hx:ah w b #[.int .i64 0] 130) :
  Calls Tryz.prog 106 #[.pointer (some ⟨b,0,none⟩),.agg #[.string s,.string t],.int .i64 0] w (fun e w'=>e= .returned (.agg #[.string s,.string t])∧Below w.heap.size w w'):=by
 have hl:=hx.lt;have hc:=hx.cell;have hf:=hx.free;have hs:∀ o1 o2,((w.alloc o1).alloc o2).setCell ⟨b,0,none⟩ (.int .i64 0)=(w.alloc o1).alloc o2:=fun o1 o2=>YD ((hx.alloc o1).alloc o2);have hr:=ah.pF w (.cells #[.string s,.string t] 32) #[.string ⟨#[]⟩,.string ⟨#[]⟩] 32;have cr:=hr.cell;have fr:=hr.free;clear hx;go_enter Tryz.func106,Tryz.ntmps106
 go_wp2_with fail
 refine dH rfl rfl aJ Tryz.underlying32 rfl zk ?_;exact ⟨rfl,aD⟩
theorem qM (b:Nat) (x y z:Fr) (w:World) (hx:ah w b #[.int .i64 0] 130) (e:sK x y=(z,0)) (hf:aC.Fits x) (hg:aC.Fits y) :
  Calls Tryz.prog 87 #[.pointer (some ⟨b,0,none⟩),x.v,y.v] w (fun e w'=>e= .returned z.v∧Below w.heap.size w w'):=by
 have H1:=zh (fun W=>aC.qM x y W hf hg);rw [e] at H1;obtain ⟨x1,x2⟩:=x;obtain ⟨y1,y2⟩:=y;obtain ⟨z1,z2⟩:=z;have H2:=zh (fun W (h:ah W b #[.int .i64 0] 130)=>Lg b z1 z2 W h);have B0:=zh hx;replace H1:Hid (∀ W,Calls Tryz.prog 170 #[.agg #[.string x1,.string x2],.agg #[.string y1,.string y2]] W (fun e w'=>e= .returned (.tuple #[.agg #[.string z1,.string z2],.int .i64 0])∧Below W.heap.size W w')):=H1;unfold Fr.v;clear e hf hg hx;go_enter Tryz.func87,Tryz.ntmps87
 go_wp2_with fail
 obtain ⟨jN,EW,hz,X1,X2,X3⟩:=Ji w #[.string x1,.string x2] 32 #[.string y1,.string y2] 32 #[.string ⟨#[]⟩,.string ⟨#[]⟩] 32;rw [EW];replace B0:=zh (B0.out.later hz);have hk2:=Bt (Below.refl _ _) hz;clear EW hz;refine (H1.out _).mono ?_;rintro e kE ⟨rfl,hb3⟩;replace B0:=zh (B0.out.later hb3);replace X1:=X1.bl hb3;replace X2:=X2.bl hb3;replace X3:=X3.bl hb3;have hk5:=Bt hk2 hb3;clear hk2;clear hb3;go_wp2_with fail
 obtain ⟨wq6,EW,hz,X4⟩:=wO kE #[.string z1,.string z2] 32;rw [EW];replace B0:=zh (B0.out.later hz);clear X1;clear X2;replace X3:=X3.bl hz;have ZM:=Bt hk5 hz;clear hk5;clear EW hz;generalize kE.heap.size=pq6 at *;refine (H2.out _ B0.out).mono ?_;rintro e wc8 ⟨rfl,qN⟩;replace B0:=zh (B0.out.later qN);replace X3:=X3.bl qN;replace X4:=X4.bl qN;have hk10:=Bt ZM qN;clear ZM;clear qN;obtain ⟨cX3,Zw,fX3⟩:=X3.clf;have hres:=X3.out;have xK:=hres.cell;have xH:=hres.free;go_wp2_with fail
 refine dH rfl rfl aJ Tryz.underlying32 rfl zk ?_;exact ⟨rfl,aD⟩
theorem sN (b:Nat) (x y z:Fr) (w:World) (hx:ah w b #[.int .i64 0] 130) (e:zO x y=(z,0)) (hf:aC.Fits x) (hg:aC.Fits y) :
  Calls Tryz.prog 93 #[.pointer (some ⟨b,0,none⟩),x.v,y.v] w (fun e w'=>e= .returned z.v∧Below w.heap.size w w'):=by
 have H1:=zh (fun W=>aC.sN x y W hf hg);rw [e] at H1;obtain ⟨x1,x2⟩:=x;obtain ⟨y1,y2⟩:=y;obtain ⟨z1,z2⟩:=z;have H2:=zh (fun W (h:ah W b #[.int .i64 0] 130)=>Lg b z1 z2 W h);have B0:=zh hx;replace H1:Hid (∀ W,Calls Tryz.prog 173 #[.agg #[.string x1,.string x2],.agg #[.string y1,.string y2]] W (fun e w'=>e= .returned (.tuple #[.agg #[.string z1,.string z2],.int .i64 0])∧Below W.heap.size W w')):=H1;unfold Fr.v;clear e hf hg hx;go_enter Tryz.func93,Tryz.ntmps93
 go_wp2_with fail
 obtain ⟨jN,EW,hz,X1,X2,X3⟩:=Ji w #[.string x1,.string x2] 32 #[.string y1,.string y2] 32 #[.string ⟨#[]⟩,.string ⟨#[]⟩] 32;rw [EW];replace B0:=zh (B0.out.later hz);have hk2:=Bt (Below.refl _ _) hz;clear EW hz;refine (H1.out _).mono ?_;rintro e kE ⟨rfl,hb3⟩;replace B0:=zh (B0.out.later hb3);replace X1:=X1.bl hb3;replace X2:=X2.bl hb3;replace X3:=X3.bl hb3;have hk5:=Bt hk2 hb3;clear hk2;clear hb3;go_wp2_with fail
 obtain ⟨wq6,EW,hz,X4⟩:=wO kE #[.string z1,.string z2] 32;rw [EW];replace B0:=zh (B0.out.later hz);clear X1;clear X2;replace X3:=X3.bl hz;have ZM:=Bt hk5 hz;clear hk5;clear EW hz;generalize kE.heap.size=pq6 at *;refine (H2.out _ B0.out).mono ?_;rintro e wc8 ⟨rfl,qN⟩;replace B0:=zh (B0.out.later qN);replace X3:=X3.bl qN;replace X4:=X4.bl qN;have hk10:=Bt ZM qN;clear ZM;clear qN;obtain ⟨cX3,Zw,fX3⟩:=X3.clf;have hres:=X3.out;have xK:=hres.cell;have xH:=hres.free;go_wp2_with fail
 refine dH rfl rfl aJ Tryz.underlying32 rfl zk ?_;exact ⟨rfl,aD⟩
theorem qJ (b:Nat) (x y z:Fr) (w:World) (hx:ah w b #[.int .i64 0] 130) (e:pI x y=(z,0)) (hf:aC.Fits x) (hg:aC.Fits y) :
  Calls Tryz.prog 92 #[.pointer (some ⟨b,0,none⟩),x.v,y.v] w (fun e w'=>e= .returned z.v∧Below w.heap.size w w'):=by
 have H1:=zh (fun W=>aC.qJ x y W hf hg);rw [e] at H1;obtain ⟨x1,x2⟩:=x;obtain ⟨y1,y2⟩:=y;obtain ⟨z1,z2⟩:=z;have H2:=zh (fun W (h:ah W b #[.int .i64 0] 130)=>Lg b z1 z2 W h);have B0:=zh hx;replace H1:Hid (∀ W,Calls Tryz.prog 172 #[.agg #[.string x1,.string x2],.agg #[.string y1,.string y2]] W (fun e w'=>e= .returned (.tuple #[.agg #[.string z1,.string z2],.int .i64 0])∧Below W.heap.size W w')):=H1;unfold Fr.v;clear e hf hg hx;go_enter Tryz.func92,Tryz.ntmps92
 go_wp2_with fail
 obtain ⟨jN,EW,hz,X1,X2,X3⟩:=Ji w #[.string x1,.string x2] 32 #[.string y1,.string y2] 32 #[.string ⟨#[]⟩,.string ⟨#[]⟩] 32;rw [EW];replace B0:=zh (B0.out.later hz);have hk2:=Bt (Below.refl _ _) hz;clear EW hz;refine (H1.out _).mono ?_;rintro e kE ⟨rfl,hb3⟩;replace B0:=zh (B0.out.later hb3);replace X1:=X1.bl hb3;replace X2:=X2.bl hb3;replace X3:=X3.bl hb3;have hk5:=Bt hk2 hb3;clear hk2;clear hb3;go_wp2_with fail
 obtain ⟨wq6,EW,hz,X4⟩:=wO kE #[.string z1,.string z2] 32;rw [EW];replace B0:=zh (B0.out.later hz);clear X1;clear X2;replace X3:=X3.bl hz;have ZM:=Bt hk5 hz;clear hk5;clear EW hz;generalize kE.heap.size=pq6 at *;refine (H2.out _ B0.out).mono ?_;rintro e wc8 ⟨rfl,qN⟩;replace B0:=zh (B0.out.later qN);replace X3:=X3.bl qN;replace X4:=X4.bl qN;have hk10:=Bt ZM qN;clear ZM;clear qN;obtain ⟨cX3,Zw,fX3⟩:=X3.clf;have hres:=X3.out;have xK:=hres.cell;have xH:=hres.free;go_wp2_with fail
 refine dH rfl rfl aJ Tryz.underlying32 rfl zk ?_;exact ⟨rfl,aD⟩
theorem nJ (b:Nat) (x y z:Fr) (w:World) (hx:ah w b #[.int .i64 0] 130) (e:nC x y=(z,0)) (hf:aC.Fits x) (hg:aC.Fits y) :
  Calls Tryz.prog 86 #[.pointer (some ⟨b,0,none⟩),x.v,y.v] w (fun e w'=>e= .returned z.v∧Below w.heap.size w w'):=by
 have H1:=zh (fun W=>aC.nJ x y W hf hg);rw [e] at H1;obtain ⟨x1,x2⟩:=x;obtain ⟨y1,y2⟩:=y;obtain ⟨z1,z2⟩:=z;have H2:=zh (fun W (h:ah W b #[.int .i64 0] 130)=>Lg b z1 z2 W h);have B0:=zh hx;replace H1:Hid (∀ W,Calls Tryz.prog 55 #[.agg #[.string x1,.string x2],.agg #[.string y1,.string y2]] W (fun e w'=>e= .returned (.tuple #[.agg #[.string z1,.string z2],.int .i64 0])∧Below W.heap.size W w')):=H1;unfold Fr.v;clear e hf hg hx;go_enter Tryz.func86,Tryz.ntmps86
 go_wp2_with fail
 obtain ⟨jN,EW,hz,X1,X2,X3⟩:=Ji w #[.string x1,.string x2] 32 #[.string y1,.string y2] 32 #[.string ⟨#[]⟩,.string ⟨#[]⟩] 32;rw [EW];replace B0:=zh (B0.out.later hz);have hk2:=Bt (Below.refl _ _) hz;clear EW hz;refine (H1.out _).mono ?_;rintro e kE ⟨rfl,hb3⟩;replace B0:=zh (B0.out.later hb3);replace X1:=X1.bl hb3;replace X2:=X2.bl hb3;replace X3:=X3.bl hb3;have hk5:=Bt hk2 hb3;clear hk2;clear hb3;go_wp2_with fail
 obtain ⟨wq6,EW,hz,X4⟩:=wO kE #[.string z1,.string z2] 32;rw [EW];replace B0:=zh (B0.out.later hz);clear X1;clear X2;replace X3:=X3.bl hz;have ZM:=Bt hk5 hz;clear hk5;clear EW hz;generalize kE.heap.size=pq6 at *;refine (H2.out _ B0.out).mono ?_;rintro e wc8 ⟨rfl,qN⟩;replace B0:=zh (B0.out.later qN);replace X3:=X3.bl qN;replace X4:=X4.bl qN;have hk10:=Bt ZM qN;clear ZM;clear qN;obtain ⟨cX3,Zw,fX3⟩:=X3.clf;have hres:=X3.out;have xK:=hres.cell;have xH:=hres.free;go_wp2_with fail
 refine dH rfl rfl aJ Tryz.underlying32 rfl zk ?_;exact ⟨rfl,aD⟩
end Go.Proofs.aK
namespace Go.Proofs.aK
open Go Go.RowKit Go.SW Go.Num Go.Mem Go.Proofs Go.fF Go.Fx Go.Proofs.aC
def zF:Fr:=⟨⟨#[48]⟩,⟨#[49]⟩⟩
theorem aS2:qV 0 1=(zF,0):=by decide+kernel
def rY (E:Int) (r:Fr × Int):Fr × Int:=if E=0 then (if r.2=0 then (r.1,0) else (zF,r.2)) else (zF,E)
theorem gOf (W:World):Calls Tryz.prog 40 #[.int .i64 0,.int .i64 1] W (fun e w'=>e= .returned (.agg #[.string ⟨#[48]⟩,.string ⟨#[49]⟩])∧Below W.heap.size W w'):=by
 have:=nG 0 1 zo zo zo zo W;rw [aS2] at this;exact this
theorem aQ2 (s t:ByteArray) (b:Nat) (w:World) (X:ah w b #[.int .i64 0] 130) :
  Calls Tryz.prog 106 #[.pointer (some ⟨b,0,none⟩),.agg #[.string s,.string t],.int .i64 0] w (fun e w'=>e= .returned (.agg #[.string s,.string t])∧mh [b] w w'∧ah w' b #[.int .i64 0] 130):=by
 refine Fx.door Tryz.func106 rfl (.one X) ?_;refine Fx.new [] 4 #[.string s,.string t] 32 [] [] fun dW=>?_;refine Fx.aL [] 6 32 [] [] fun dM=>?_;exact Fx.fV 2 dM [3,1,3,3,2,4,5] [(0,#[.int .i64 0]),(2,#[.string s,.string t])] (fun W M=>⟨rfl,M.tK,M.box (b:=b) 0⟩)
theorem aQ1 (s t:ByteArray) (k:Int) (hk:k≠0) (b:Nat) (w:World) (X:ah w b #[.int .i64 0] 130) :
  Calls Tryz.prog 106 #[.pointer (some ⟨b,0,none⟩),.agg #[.string s,.string t],.int .i64 k] w (fun e w'=>e= .returned (.agg #[.string ⟨#[48]⟩,.string ⟨#[49]⟩])∧mh [b] w w'∧ah w' b #[.int .i64 k] 130):=by
 refine Fx.door Tryz.func106 rfl (.one X) ?_;refine Fx.new [] 4 #[.string s,.string t] 32 [] [] fun dW=>?_;refine Fx.aL [] 6 32 [] [] fun dM=>?_;refine Fx.part 29 [3,1,3,3] [(20,.bool (!(k == 0)))] [(0,#[.int .i64 k])] ?_;refine Fx.jo true (by simp [hk]) ?_;refine Fx.call [1] 21 [] [] (fun W M=>gOf _) ?_;exact Fx.fV 2 dM [5] [(2,#[.string (⟨#[48]⟩),.string (⟨#[49]⟩)])] (fun W M=>⟨rfl,M.tK,M.box (b:=b) 0⟩)
theorem aQ0 (s t:ByteArray) (k E:Int) (hk:E≠0) (b:Nat) (w:World) (X:ah w b #[.int .i64 E] 130) :
  Calls Tryz.prog 106 #[.pointer (some ⟨b,0,none⟩),.agg #[.string s,.string t],.int .i64 k] w (fun e w'=>e= .returned (.agg #[.string ⟨#[48]⟩,.string ⟨#[49]⟩])∧mh [b] w w'∧ah w' b #[.int .i64 E] 130):=by
 refine Fx.door Tryz.func106 rfl (.one X) ?_;refine Fx.new [] 4 #[.string s,.string t] 32 [] [] fun dW=>?_;refine Fx.aL [] 6 32 [] [] fun dM=>?_;refine Fx.part 10 [3] [(11,.bool (E == 0))] [] ?_;refine Fx.jo false (by simp [hk]) ?_;refine Fx.part 13 [2,3] [(20,.bool (!(E == 0)))] [] ?_;refine Fx.jo true (by simp [hk]) ?_;refine Fx.call [1] 21 [] [] (fun W M=>gOf _) ?_;exact Fx.fV 2 dM [5] [(2,#[.string (⟨#[48]⟩),.string (⟨#[49]⟩)])] (fun W M=>⟨rfl,M.tK,M.box (b:=b) 0⟩)
theorem SN {s t x y:ByteArray} {k E F:Int} (h:rY E (⟨s,t⟩,k)=(⟨x,y⟩,F)) {b:Nat} {w:World} (X:ah w b #[.int .i64 E] 130) :
  Calls Tryz.prog 106 #[.pointer (some ⟨b,0,none⟩),.agg #[.string s,.string t],.int .i64 k] w (fun e w'=>e= .returned (.agg #[.string x,.string y])∧mh [b] w w'∧ah w' b #[.int .i64 F] 130):=by
 unfold rY at h;split at h
 ·rename_i h0;subst h0;split at h
  ·rename_i h1;cases h
   have h1':k=0:=h1;subst h1';exact aQ2 s t b w X
  ·rename_i h1;cases h
   exact aQ1 s t k h1 b w X
 ·rename_i h0;cases h
  exact aQ0 s t k E h0 b w X
theorem af6 {E F:Int} {p q r s x y:ByteArray} (h:rY E (sK ⟨p,q⟩ ⟨r,s⟩)=(⟨x,y⟩,F)) (hf:Fits ⟨p,q⟩) (hg:Fits ⟨r,s⟩) {b:Nat} {w:World} (X:ah w b #[.int .i64 E] 130) :
  Calls Tryz.prog 87 #[.pointer (some ⟨b,0,none⟩),.agg #[.string p,.string q],.agg #[.string r,.string s]] w (fun e w'=>e= .returned (.agg #[.string x,.string y])∧mh [b] w w'∧ah w' b #[.int .i64 F] 130):=by
 obtain ⟨⟨⟨u,v⟩,k⟩,hr⟩:∃ z,sK ⟨p,q⟩ ⟨r,s⟩=z:=⟨_,rfl⟩;have C0:=fun W=>aC.qM ⟨p,q⟩ ⟨r,s⟩ W hf hg;rw [hr] at C0 h;have C:∀ W,Calls Tryz.prog 170 #[.agg #[.string p,.string q],.agg #[.string r,.string s]] W (fun e w'=>e= .returned (.tuple #[.agg #[.string u,.string v],.int .i64 k])∧Below W.heap.size W w'):=C0;refine Fx.door Tryz.func87 rfl (.one X) ?_;refine Fx.new [] 4 #[.string p,.string q] 32 [] [] fun dW=>?_;refine Fx.new [] 5 #[.string r,.string s] 32 [] [] fun dM=>?_;refine Fx.aL [] 6 32 [] [] fun dP=>?_;refine Fx.aO [4,5] 12 [] [] C ?_;refine Fx.aL [] 7 32 [(13,.agg #[.string u,.string v]),(14,.int .i64 k)] [] fun xM=>?_;refine Fx.iw [7,7] 18 0 [] [(4,#[.string u,.string v])] (fun W M=>SN h (M.box (b:=b) 0)) ?_;exact Fx.fV 3 dP [6] [(3,#[.string x,.string y])] (fun W M=>⟨rfl,M.tK,M.box (b:=b) 0⟩)
theorem UR {E F:Int} {p q r s x y:ByteArray} (h:rY E (zO ⟨p,q⟩ ⟨r,s⟩)=(⟨x,y⟩,F)) (hf:Fits ⟨p,q⟩) (hg:Fits ⟨r,s⟩) {b:Nat} {w:World} (X:ah w b #[.int .i64 E] 130) :
  Calls Tryz.prog 93 #[.pointer (some ⟨b,0,none⟩),.agg #[.string p,.string q],.agg #[.string r,.string s]] w (fun e w'=>e= .returned (.agg #[.string x,.string y])∧mh [b] w w'∧ah w' b #[.int .i64 F] 130):=by
 obtain ⟨⟨⟨u,v⟩,k⟩,hr⟩:∃ z,zO ⟨p,q⟩ ⟨r,s⟩=z:=⟨_,rfl⟩;have C0:=fun W=>aC.sN ⟨p,q⟩ ⟨r,s⟩ W hf hg;rw [hr] at C0 h;have C:∀ W,Calls Tryz.prog 173 #[.agg #[.string p,.string q],.agg #[.string r,.string s]] W (fun e w'=>e= .returned (.tuple #[.agg #[.string u,.string v],.int .i64 k])∧Below W.heap.size W w'):=C0;refine Fx.door Tryz.func93 rfl (.one X) ?_;refine Fx.new [] 4 #[.string p,.string q] 32 [] [] fun dW=>?_;refine Fx.new [] 5 #[.string r,.string s] 32 [] [] fun dM=>?_;refine Fx.aL [] 6 32 [] [] fun dP=>?_;refine Fx.aO [4,5] 12 [] [] C ?_;refine Fx.aL [] 7 32 [(13,.agg #[.string u,.string v]),(14,.int .i64 k)] [] fun xM=>?_;refine Fx.iw [7,7] 18 0 [] [(4,#[.string u,.string v])] (fun W M=>SN h (M.box (b:=b) 0)) ?_;exact Fx.fV 3 dP [6] [(3,#[.string x,.string y])] (fun W M=>⟨rfl,M.tK,M.box (b:=b) 0⟩)
theorem ae4 {E F:Int} {p q r s x y:ByteArray} (h:rY E (pI ⟨p,q⟩ ⟨r,s⟩)=(⟨x,y⟩,F)) (hf:Fits ⟨p,q⟩) (hg:Fits ⟨r,s⟩) {b:Nat} {w:World} (X:ah w b #[.int .i64 E] 130) :
  Calls Tryz.prog 92 #[.pointer (some ⟨b,0,none⟩),.agg #[.string p,.string q],.agg #[.string r,.string s]] w (fun e w'=>e= .returned (.agg #[.string x,.string y])∧mh [b] w w'∧ah w' b #[.int .i64 F] 130):=by
 obtain ⟨⟨⟨u,v⟩,k⟩,hr⟩:∃ z,pI ⟨p,q⟩ ⟨r,s⟩=z:=⟨_,rfl⟩;have C0:=fun W=>aC.qJ ⟨p,q⟩ ⟨r,s⟩ W hf hg;rw [hr] at C0 h;have C:∀ W,Calls Tryz.prog 172 #[.agg #[.string p,.string q],.agg #[.string r,.string s]] W (fun e w'=>e= .returned (.tuple #[.agg #[.string u,.string v],.int .i64 k])∧Below W.heap.size W w'):=C0;refine Fx.door Tryz.func92 rfl (.one X) ?_;refine Fx.new [] 4 #[.string p,.string q] 32 [] [] fun dW=>?_;refine Fx.new [] 5 #[.string r,.string s] 32 [] [] fun dM=>?_;refine Fx.aL [] 6 32 [] [] fun dP=>?_;refine Fx.aO [4,5] 12 [] [] C ?_;refine Fx.aL [] 7 32 [(13,.agg #[.string u,.string v]),(14,.int .i64 k)] [] fun xM=>?_;refine Fx.iw [7,7] 18 0 [] [(4,#[.string u,.string v])] (fun W M=>SN h (M.box (b:=b) 0)) ?_;exact Fx.fV 3 dP [6] [(3,#[.string x,.string y])] (fun W M=>⟨rfl,M.tK,M.box (b:=b) 0⟩)
theorem IW (z:Int):(Lib.itoa z).length=(Lib.decDigits z.natAbs).length+(if z<0 then 1 else 0):=by
 unfold Lib.itoa;split
 ·rfl
 ·rename_i h;rw [show z.natAbs=z.toNat by omega];rfl
theorem NK {q:Rat} (h:vL q=true):Fits (Fr.of q):=by
 unfold vL at h;rw [Bool.and_eq_true] at h;have h1:=dI.1 h.1;have h2:=dI.1 h.2;have h3:=IW q.num;have h4:=IW (q.den:Int);rw [Int.natAbs_natCast] at h4;have h5:(Lib.itoa q.num).length≤601:=by rw [h3];split<;>omega
 have h6:(Lib.itoa (q.den:Int)).length≤601:=by rw [h4];split<;>omega
 exact ⟨by show (Lib.itoa q.num).length≤_;omega,by show (Lib.itoa (q.den:Int)).length≤_;omega⟩
theorem Kv (q:Rat):Fits (wr q).1:=by
 unfold wr;split
 ·rename_i hq;exact NK hq
 ·exact ⟨by decide,by decide⟩
theorem NW {E F:Int} {r:Fr × Int} {x:Fr} (hr:Fits r.1) (h:rY E r=(x,F)):Fits x:=by
 have hz:Fits zF:=⟨by decide,by decide⟩;unfold rY at h;split at h
 ·split at h<;>cases h
  ·exact hr
  ·exact hz
 ·cases h;exact hz
theorem Ut:Fits Fr.no:=⟨by decide,by decide⟩
theorem Fq {f:Rat→Rat→Fr × Int} (hf:∀ p q,Fits (f p q).1) (a b:Fr):Fits (bin f a b).1:=by
 unfold bin;split
 ·exact hf _ _
 ·exact Ut
theorem aa8 (a b:Fr):Fits (sK a b).1:=Fq (fun p q=>Kv (p+q)) a b
theorem aa7 (a b:Fr):Fits (pI a b).1:=Fq (fun p q=>Kv (p*q)) a b
theorem Fp (a b:Fr):Fits (nC a b).1:=Fq (fun p q=>by split;exact Ut;exact Kv (p / q)) a b
end Go.Proofs.aK
namespace Go.Proofs.aN
open Go Go.RowKit Go.SW Go.Num Go.Mem Go.Proofs Go.fF Go.Proofs.aW Go.Proofs.aC Go.Proofs.jf
theorem gD (lo hi:Int) (w:World):Calls Tryz.prog 162 #[.agg #[.int .i64 lo,.int .i64 hi]] w (fun e w'=>e= .returned (.int .i64 (if dY lo hi then 0 else 30))∧Below w.heap.size w w'):=by
 have C:=fun W=>dG lo hi W;cases hb:dY lo hi<;>rw [hb] at C
 ·rw [if_neg zd];refine Fx.door Tryz.func162 rfl (.nil w []) ?_;refine Fx.new [] 1 #[.int .i64 lo,.int .i64 hi] 40 [] [] fun dW=>?_;refine Fx.aO [3] 4 [] [] C ?_;exact Fx.wF [1] [] (fun W M=>⟨rfl,M.below⟩)
 ·rw [if_pos rfl];refine Fx.door Tryz.func162 rfl (.nil w []) ?_;refine Fx.new [] 1 #[.int .i64 lo,.int .i64 hi] 40 [] [] fun dW=>?_;refine Fx.aO [3] 4 [] [] C ?_;exact Fx.wF [2] [] (fun W M=>⟨rfl,M.below⟩)
theorem OJ (x y lo hi:Int) (w:World):Calls Tryz.prog 77 #[.agg #[.int .i64 x,.int .i64 y],.int .i64 lo,.int .i64 hi] w (fun e w'=>e= .returned (aY (Rm (x,y) lo hi))∧Below w.heap.size w w'):=by
 have C:=fun W=>dG x y W;have D:=fun W=>dG lo hi W;unfold Rm okB an6 aY;simp only [List.all_cons,List.all_nil,Bool.and_true];cases hb:dY x y<;>rw [hb] at C
 ·rw [if_neg zd];refine Fx.door Tryz.func77 rfl (.nil w []) ?_;refine Fx.new [] 3 #[.int .i64 x,.int .i64 y] 40 [] [] fun dW=>?_;refine Fx.aL [] 6 40 [] [] fun dM=>?_;refine Fx.aO [3] 10 [] [] C ?_;exact Fx.dw 1 dM [1,4] [(1,#[.int .i64 0,.int .i64 0])] (fun W M=>⟨rfl,M.below⟩)
 ·rw [if_pos rfl];cases hb2:dY lo hi<;>rw [hb2] at D
  ·rw [if_neg zd];refine Fx.door Tryz.func77 rfl (.nil w []) ?_;refine Fx.new [] 3 #[.int .i64 x,.int .i64 y] 40 [] [] fun dW=>?_;refine Fx.aL [] 6 40 [] [] fun dM=>?_;refine Fx.aO [3] 10 [] [] C ?_;refine Fx.aO [2] 16 [] [] D ?_;exact Fx.dw 1 dM [1,4] [(1,#[.int .i64 0,.int .i64 0])] (fun W M=>⟨rfl,M.below⟩)
  ·rw [if_pos rfl];have b1: -1000000000000000000≤x∧x≤y∧y≤1000000000000000000:=by simpa [dY] using hb
   have b2: -1000000000000000000≤lo∧lo≤hi∧hi≤1000000000000000000:=by simpa [dY] using hb2
   have e:dK (min (max x lo) hi) (min (max y lo) hi)=((if hi<(if x<lo then lo else x) then hi else (if x<lo then lo else x),if hi<(if y<lo then lo else y) then hi else (if y<lo then lo else y)),0):=by
    have p1:min (max x lo) hi=if hi<(if x<lo then lo else x) then hi else (if x<lo then lo else x):=by split<;>(try split)<;>omega
    have p2:min (max y lo) hi=if hi<(if y<lo then lo else y) then hi else (if y<lo then lo else y):=by split<;>(try split)<;>omega
    unfold dK;rw [← p1,← p2,if_pos (by unfold dY;rw [decide_eq_true zo,decide_eq_true zo,decide_eq_true zo];rfl)]
   rw [e];refine Fx.door Tryz.func77 rfl (.nil w []) ?_;refine Fx.new [] 3 #[.int .i64 x,.int .i64 y] 40 [] [] fun dW=>?_;refine Fx.aL [] 6 40 [] [] fun dM=>?_;refine Fx.aO [3] 10 [] [] C ?_;refine Fx.aO [2] 16 [] [] D ?_;refine Fx.aL [2,3,3] 8 40 [(27,.agg #[.int .i64 (if x<lo then lo else x),.int .i64 (if y<lo then lo else y)])] [] fun dP=>?_;exact Fx.dw 1 dM [5,5,5,4] [(1,#[.int .i64 (if hi<(if x<lo then lo else x) then hi else (if x<lo then lo else x)),.int .i64 (if hi<(if y<lo then lo else y) then hi else (if y<lo then lo else y))]),(2,#[.int .i64 (if x<lo then lo else x),.int .i64 (if y<lo then lo else y)])] (fun W M=>⟨rfl,M.below⟩)
theorem aJ5 {w:World} {b:Nat} {n1 n2 m1 m2:Bool} {p1 p2 q1 q2:Option Addr} {l1 l2 c1 c2 k1 k2 d1 d2:Nat} {p q:Rat} (hX:ah w b #[.bool n1,.slice p1 l1 c1,.bool n2,.slice p2 l2 c2,.bool m1,.slice q1 k1 d1,.bool m2,.slice q2 k2 d2] 163)
  (h1:Ra w (.agg #[.bool n1,.slice p1 l1 c1,.bool n2,.slice p2 l2 c2]) p) (h2:Ra w (.agg #[.bool m1,.slice q1 k1 d1,.bool m2,.slice q2 k2 d2]) q):zG w (.slice (some ⟨b,0,none⟩) 2 2) [p,q]:=by
 refine ⟨some ⟨b,0,none⟩,2,rfl,Nat.le_refl _,by decide,(fun h=>by cases h),fun ad had=>?_⟩;cases had
 refine ⟨rfl,_,hX,fun i hi=>?_⟩
 rcases i with _| _|i
 ·exact ⟨[.bool n1,.slice p1 l1 c1,.bool n2,.slice p2 l2 c2],⟨_,_,_,_,_,_,_,_,rfl,h1⟩,rfl,fun j hj=>by rcases j with _| _| _| _|j<;>first|rfl|omega⟩
 ·exact ⟨[.bool m1,.slice q1 k1 d1,.bool m2,.slice q2 k2 d2],⟨_,_,_,_,_,_,_,_,rfl,h2⟩,rfl,fun j hj=>by rcases j with _| _| _| _|j<;>first|rfl|omega⟩
 ·simp at hi
  omega
theorem Tj {p:Rat} {n d:Int} (h:gZ 10 p) (h1: -1000000000000≤n) (h2:n≤1000000000000) (h3:1≤d) (h4:d≤1000000000000):gZ 30 (p*((n:Rat) / (d:Rat))):=by
 have k:gZ 10 ((n:Rat) / (d:Rat)):=by
  obtain ⟨l1,l2⟩:=xD (n:=n) (d:=d) zo;refine ⟨?_,?_⟩
  ·exact Nat.le_trans (dh zo l1) (Nat.le_trans (dh (n:=1000000000000) zo zo) (by decide+kernel))
  ·exact Nat.le_trans (dh zo l2) (Nat.le_trans (dh (n:=1000000000000) zo zo) (by decide+kernel))
 exact (jT h k).mono zo
theorem Gn (x y n d:Int) (w:World) (hn1: -9223372036854775808≤n:=by omega) (hn2:n≤9223372036854775807:=by omega) (hd1: -9223372036854775808≤d:=by omega) (hd2:d≤9223372036854775807:=by omega) :
  Calls Tryz.prog 139 #[.agg #[.int .i64 x,.int .i64 y],.int .i64 n,.int .i64 d] w (fun e w'=>e= .returned (aY (sV (x,y) n d))∧Below w.heap.size w w'):=by
 have C:=fun W=>dG x y W;unfold sV okB ah6 aY;simp only [List.all_cons,List.all_nil,Bool.and_true];cases hb:dY x y<;>rw [hb] at C
 ·rw [if_neg zd];refine Fx.door Tryz.func139 rfl (.nil w []) ?_;refine Fx.new [] 3 #[.int .i64 x,.int .i64 y] 40 [] [] fun dW=>?_;refine Fx.aL [] 6 40 [] [] fun dM=>?_;refine Fx.aO [3] 10 [] [] C ?_;exact Fx.dw 1 dM [1,4] [(1,#[.int .i64 0,.int .i64 0])] (fun W M=>⟨rfl,M.below⟩)
 rw [if_pos rfl]
 by_cases g1:n< -1000000000000
 ·rw [if_pos (.inl g1)];refine Fx.door Tryz.func139 rfl (.nil w []) ?_;refine Fx.new [] 3 #[.int .i64 x,.int .i64 y] 40 [] [] fun dW=>?_;refine Fx.aL [] 6 40 [] [] fun dM=>?_;refine Fx.aO [3] 10 [] [] C ?_;refine Fx.part 11 [2] [(14,.bool (decide (n<(-1000000000000))))] [] ?_;refine Fx.jo true (decide_eq_true g1) ?_;exact Fx.dw 1 dM [1,4] [(1,#[.int .i64 0,.int .i64 0])] (fun W M=>⟨rfl,M.below⟩)
 by_cases g2:1000000000000<n
 ·rw [if_pos (.inr (.inl g2))];refine Fx.door Tryz.func139 rfl (.nil w []) ?_;refine Fx.new [] 3 #[.int .i64 x,.int .i64 y] 40 [] [] fun dW=>?_;refine Fx.aL [] 6 40 [] [] fun dM=>?_;refine Fx.aO [3] 10 [] [] C ?_;refine Fx.part 11 [2] [(14,.bool (decide (n<(-1000000000000))))] [] ?_;refine Fx.jo false (decide_eq_false g1) ?_;refine Fx.part 3 [] [(17,.bool (decide (1000000000000<n))),(15,.bool false)] [] ?_;refine Fx.jo true (decide_eq_true g2) ?_;exact Fx.dw 1 dM [1,4] [(1,#[.int .i64 0,.int .i64 0])] (fun W M=>⟨rfl,M.below⟩)
 by_cases g3:d<1
 ·rw [if_pos (.inr (.inr (.inl g3)))];refine Fx.door Tryz.func139 rfl (.nil w []) ?_;refine Fx.new [] 3 #[.int .i64 x,.int .i64 y] 40 [] [] fun dW=>?_;refine Fx.aL [] 6 40 [] [] fun dM=>?_;refine Fx.aO [3] 10 [] [] C ?_;refine Fx.part 11 [2] [(14,.bool (decide (n<(-1000000000000))))] [] ?_;refine Fx.jo false (decide_eq_false g1) ?_;refine Fx.part 3 [] [(17,.bool (decide (1000000000000<n))),(15,.bool false)] [] ?_;refine Fx.jo false (decide_eq_false g2) ?_;refine Fx.part 4 [] [(21,.bool (decide (d<1))),(19,.bool false)] [] ?_;refine Fx.jo true (decide_eq_true g3) ?_;exact Fx.dw 1 dM [1,4] [(1,#[.int .i64 0,.int .i64 0])] (fun W M=>⟨rfl,M.below⟩)
 by_cases g4:1000000000000<d
 ·rw [if_pos (.inr (.inr (.inr g4)))];refine Fx.door Tryz.func139 rfl (.nil w []) ?_;refine Fx.new [] 3 #[.int .i64 x,.int .i64 y] 40 [] [] fun dW=>?_;refine Fx.aL [] 6 40 [] [] fun dM=>?_;refine Fx.aO [3] 10 [] [] C ?_;refine Fx.part 11 [2] [(14,.bool (decide (n<(-1000000000000))))] [] ?_;refine Fx.jo false (decide_eq_false g1) ?_;refine Fx.part 3 [] [(17,.bool (decide (1000000000000<n))),(15,.bool false)] [] ?_;refine Fx.jo false (decide_eq_false g2) ?_;refine Fx.part 4 [] [(21,.bool (decide (d<1))),(19,.bool false)] [] ?_;refine Fx.jo false (decide_eq_false g3) ?_;refine Fx.part 4 [] [(25,.bool (decide (1000000000000<d))),(23,.bool false)] [] ?_;refine Fx.jo true (decide_eq_true g4) ?_;exact Fx.dw 1 dM [1,4] [(1,#[.int .i64 0,.int .i64 0])] (fun W M=>⟨rfl,M.below⟩)
 rw [if_neg zo];have b1: -1000000000000000000≤x∧x≤y∧y≤1000000000000000000:=by simpa [dY] using hb
 have Q:∀ W,Calls Tryz.prog 197 #[.int .i64 n,.int .i64 d] W (Sg W ((n:Rat) / (d:Rat))):=fun W=>(rD n d hn1 hn2 hd1 hd2 zo W).mono fun _ _ q=>iK q;have V1:∀ W,Calls Tryz.prog 216 #[.int .i64 x] W (Sg W (un x)):=fun W=>(gI x zo zo W).mono fun _ _ q=>iK q;have V2:∀ W,Calls Tryz.prog 216 #[.int .i64 y] W (Sg W (un y)):=fun W=>(gI y zo zo W).mono fun _ _ q=>iK q;have s1:=pO x zo zo;have s2:=pO y zo zo;have s3:=Tj s1 (n:=n) (d:=d) zo zo zo zo;have s4:=Tj s2 (n:=n) (d:=d) zo zo zo zo
 have sf:gZ 10000000000 ((n:Rat) / (d:Rat)):=by
  obtain ⟨l1,l2⟩:=xD (n:=n) (d:=d) zo;exact ⟨Nat.le_trans (dh zo l1) (Nat.le_trans (dh (n:=1000000000000) zo zo) (by decide+kernel)),Nat.le_trans (dh zo l2) (Nat.le_trans (dh (n:=1000000000000) zo zo) (by decide+kernel))⟩
 have T:∀ v v' p W,Ra W v p→Ra W v' ((n:Rat) / (d:Rat))→gZ 10 p→Calls Tryz.prog 218 #[v,v'] W (Sg W (p*((n:Rat) / (d:Rat)))):=fun v v' p W h h' hp=>(gN v v' p _ W h h' (hp.mono zo) sf).mono fun _ _ q=>iK q;obtain ⟨⟨⟨u,v⟩,k⟩,hz⟩:∃ z,qp (fun x y up=>jQ x y d up) (x,y) (n,n)=z:=⟨_,rfl⟩
 have BT:∀ v' W,zG W v' [un x*((n:Rat) / (d:Rat)),un y*((n:Rat) / (d:Rat))]→Calls Tryz.prog 217 #[v'] W (fun e w'=>e= .returned (.tuple #[.agg #[.int .i64 u,.int .i64 v],.int .i64 k])∧Below W.heap.size W w'):=fun v' W h=>by
  have:=xO v' _ _ 2 W h rfl zo (fun q hq=>by
   simp only [List.mem_cons,List.not_mem_nil,or_false] at hq
   rcases hq with rfl|rfl
   ·exact s3
   ·exact s4)
  have e:=Vo (x,y) n d zo;simp only at e;rw [e,hz] at this;exact this
 rw [hz];refine Fx.door Tryz.func139 rfl (.nil w []) ?_;refine Fx.new [] 3 #[.int .i64 x,.int .i64 y] 40 [] [] fun dW=>?_;refine Fx.aL [] 6 40 [] [] fun dM=>?_;refine Fx.aO [3] 10 [] [] C ?_;refine Fx.part 11 [2] [(14,.bool (decide (n<(-1000000000000))))] [] ?_;refine Fx.jo false (decide_eq_false g1) ?_;refine Fx.part 3 [] [(17,.bool (decide (1000000000000<n))),(15,.bool false)] [] ?_;refine Fx.jo false (decide_eq_false g2) ?_;refine Fx.part 4 [] [(21,.bool (decide (d<1))),(19,.bool false)] [] ?_;refine Fx.jo false (decide_eq_false g3) ?_;refine Fx.part 4 [] [(25,.bool (decide (1000000000000<d))),(23,.bool false)] [] ?_;refine Fx.jo false (decide_eq_false g4) ?_;refine Fx.gL [2] 30 [] [] (fun W M=>Q _) ?_;rintro W wx3 e M ⟨n1,p1,l1,c1,n2,p2,l2,c2,rfl,B3,R0⟩;refine ⟨B3,fun M3=>?_⟩;have M:=M3;have HZ3:=M.below;refine Fx.aL [] 8 163 [] [] fun xM=>?_
 refine Fx.draw [5] [0,1,3,5,6,8,2,4,7,9,10,11,12,13,14,5015] [] [] [(2,#[.bool n1,.slice p1 l1 c1,.bool n2,.slice p2 l2 c2])] ?_;refine Fx.gL [3,5,3,5] 33 [(34,.agg #[.bool n1,.slice p1 l1 c1,.bool n2,.slice p2 l2 c2]),(37,.int .i64 y),(39,.agg #[.bool n1,.slice p1 l1 c1,.bool n2,.slice p2 l2 c2])] [] (fun W M=>V1 _) ?_;rintro W wx5 e M ⟨n3,p3,l3,c3,n4,p4,l4,c4,rfl,B5,R1⟩;refine ⟨B5,fun M5=>?_⟩;have M:=M5;replace R0:=R0.later M.below;have XF:=(Bt HZ3 M.below);refine Fx.gL [] 35 [] [] (fun W M=>T _ _ _ _ (R1.later M.below) (R0.later M.below) s1) ?_;rintro W wx6 e M ⟨n5,p5,l5,c5,n6,p6,l6,c6,rfl,B6,R2⟩;refine ⟨B6,fun M6=>?_⟩;have M:=M6;replace R0:=R0.later M.below;replace R1:=R1.later M.below;have HZ6:=(Bt XF M.below);refine Fx.gL [] 38 [] [] (fun W M=>V2 _) ?_;rintro W wx7 e M ⟨n7,p7,l7,c7,n8,p8,l8,c8,rfl,B7,R3⟩;refine ⟨B7,fun M7=>?_⟩;have M:=M7;replace R0:=R0.later M.below
 replace R1:=R1.later M.below;replace R2:=R2.later M.below;have HZ7:=(Bt HZ6 M.below);refine Fx.gL [] 40 [] [] (fun W M=>T _ _ _ _ (R3.later M.below) (R0.later M.below) s2) ?_;rintro W wx8 e M ⟨n9,p9,l9,c9,na,pa,la,ca,rfl,B8,R4⟩;refine ⟨B8,fun M8=>?_⟩;have M:=M8;replace R0:=R0.later M.below;replace R1:=R1.later M.below;replace R2:=R2.later M.below;replace R3:=R3.later M.below;have HZ8:=(Bt HZ7 M.below);refine Fx.newS [] 41 2 2 #[.bool n5,.slice p5 l5 c5,.bool n6,.slice p6 l6 c6,.bool n9,.slice p9 l9 c9,.bool na,.slice pa la ca] 163 [] [] fun bz9=>?_;refine Fx.call [] 42 [] [] (fun W M=>BT _ _ (aJ5 (M.box (b:=bz9) 3) (R2.later M.below) (R4.later M.below))) ?_;refine Fx.part 3 [] [(43,.agg #[.int .i64 u,.int .i64 v]),(44,.int .i64 k)] [] ?_;refine Fx.back M8 ?_;refine Fx.back M7 ?_;refine Fx.back M6 ?_;refine Fx.back M5 ?_;refine Fx.back M3 ?_
 exact Fx.dw 1 dM [4] [(1,#[.int .i64 u,.int .i64 v])] (fun W M=>⟨rfl,M.below⟩)
end Go.Proofs.aN
namespace Go.Proofs.aC
open Go Go.RowKit Go.SW Go.Num Go.Mem Go.Proofs Go.fF Go.Fx Go.Proofs.aN
theorem Av (a b:Fr) (w:World) (ha:Fits a) (hb:Fits b):Calls Tryz.prog 136 #[a.v,b.v] w (fun e w'=>e= .returned (.tuple #[.int .i64 (uY a b).1,.int .i64 (uY a b).2])∧Below w.heap.size w w'):=by
 obtain ⟨s,t⟩:=a;obtain ⟨s',t'⟩:=b;have CA:∀ b W,(rd ⟨s,t⟩).isSome=b→Calls Tryz.prog 132 #[.agg #[.string s,.string t]] W (fun e w'=>e= .returned (.bool b)∧Below W.heap.size W w'):=fun b W h=>gP h ha W;have CB:∀ b W,(rd ⟨s',t'⟩).isSome=b→Calls Tryz.prog 132 #[.agg #[.string s',.string t']] W (fun e w'=>e= .returned (.bool b)∧Below W.heap.size W w'):=fun b W h=>gP h hb W;unfold uY;cases h1:rd ⟨s,t⟩ with
 | none =>
  rw [h1] at CA;refine Fx.door Tryz.func136 rfl (.nil w []) ?_;refine Fx.new [] 2 #[.string s,.string t] 32 [] [] fun dW=>?_;refine Fx.new [] 3 #[.string (s'),.string (t')] 32 [] [] fun dM=>?_;refine Fx.call [3] 7 [] [] (fun W M=>CA false _ rfl) ?_;exact Fx.YG [0,0,1] [] (fun W M=>⟨rfl,M.below⟩)
 | some p =>
  rw [h1] at CA;cases h2:rd ⟨s',t'⟩ with
  | none =>
   rw [h2] at CB;refine Fx.door Tryz.func136 rfl (.nil w []) ?_;refine Fx.new [] 2 #[.string s,.string t] 32 [] [] fun dW=>?_;refine Fx.new [] 3 #[.string (s'),.string (t')] 32 [] [] fun dM=>?_;refine Fx.call [3] 7 [] [] (fun W M=>CA true _ rfl) ?_;refine Fx.call [4] 11 [(9,.bool false)] [] (fun W M=>CB false _ rfl) ?_;exact Fx.YG [1] [] (fun W M=>⟨rfl,M.below⟩)
  | some q =>
   rw [h2] at CB;have I1:∀ W,Calls Tryz.prog 135 #[.agg #[.string s,.string t]] W (Sg W p):=fun W=>(sU h1 W).mono fun _ _ q=>iK q;have I2:∀ W,Calls Tryz.prog 135 #[.agg #[.string s',.string t']] W (Sg W q):=fun W=>(sU h2 W).mono fun _ _ q=>iK q;have z1:=(mE h1).mono (show 67≤10000000000 by omega);have z2:=(mE h2).mono (show 67≤10000000000 by omega);refine Fx.door Tryz.func136 rfl (.nil w []) ?_;refine Fx.new [] 2 #[.string s,.string t] 32 [] [] fun dW=>?_;refine Fx.new [] 3 #[.string (s'),.string (t')] 32 [] [] fun dM=>?_;refine Fx.call [3] 7 [] [] (fun W M=>CA true _ rfl) ?_;refine Fx.call [4] 11 [(9,.bool false)] [] (fun W M=>CB true _ rfl) ?_;refine Fx.draw [2] [0,2,1,3,4,5005,5006] [] [] [] ?_;refine Fx.gL [3,4] 15 [(16,.agg #[.string (s'),.string (t')])] [] (fun W M=>I1 _) ?_;rintro W wx3 e M ⟨n1,p1,l1,c1,n2,p2,l2,c2,rfl,B3,R1⟩;refine ⟨B3,fun M3=>?_⟩
   have M:=M3;have HZ3:=M.below;refine Fx.gL [] 17 [] [] (fun W M=>I2 _) ?_;rintro W wx4 e M ⟨m1,q1,k1,d1,m2,q2,k2,d2,rfl,B4,R2⟩;refine ⟨B4,fun M4=>?_⟩;have M:=M4;replace R1:=R1.later M.below;have XG:=(Bt HZ3 M.below);refine Fx.call [] 18 [] [] (fun W M=>iI _ _ p q _ (R1.later M.below) (R2.later M.below) z1 z2) ?_;exact Fx.YG [] [] (fun W M=>⟨rfl,(Bt XG M.below)⟩)
end Go.Proofs.aC
namespace Go.Proofs.bQ
open Go Go.RowKit Go.SW Go.Num Go.Mem Go.Proofs Go.fF Go.Fx Go.Proofs.aC Go.Proofs.aK Go.Proofs.lab
def BA:Fr:=⟨⟨#[50,49,54]⟩,⟨#[50,52,51,56,57]⟩⟩
theorem Uf:qV 216 24389=(BA,0):=by decide+kernel
theorem Le (W:World):Calls Tryz.prog 40 #[.int .i64 216,.int .i64 24389] W (fun e w'=>e= .returned (.agg #[.string ⟨#[50,49,54]⟩,.string ⟨#[50,52,51,56,57]⟩])∧Below W.heap.size W w'):=by
 have:=aK.nG 216 24389 zo zo zo zo W;rw [Uf] at this;exact this
theorem Al:Fits BA:=⟨by decide,by decide⟩
def WB:Fr:=⟨⟨#[56,52,49]⟩,⟨#[49,48,56]⟩⟩
theorem Ue:qV 841 108=(WB,0):=by decide+kernel
theorem UZ (W:World):Calls Tryz.prog 40 #[.int .i64 841,.int .i64 108] W (fun e w'=>e= .returned (.agg #[.string ⟨#[56,52,49]⟩,.string ⟨#[49,48,56]⟩])∧Below W.heap.size W w'):=by
 have:=aK.nG 841 108 zo zo zo zo W;rw [Ue] at this;exact this
theorem Jb:Fits WB:=⟨by decide,by decide⟩
def k4:Fr:=⟨⟨#[52]⟩,⟨#[50,57]⟩⟩
theorem ar2:qV 4 29=(k4,0):=by decide+kernel
theorem as5 (W:World):Calls Tryz.prog 40 #[.int .i64 4,.int .i64 29] W (fun e w'=>e= .returned (.agg #[.string ⟨#[52]⟩,.string ⟨#[50,57]⟩])∧Below W.heap.size W w'):=by
 have:=aK.nG 4 29 zo zo zo zo W;rw [ar2] at this;exact this
theorem Uu:Fits k4:=⟨by decide,by decide⟩
def k6:Fr:=⟨⟨#[54]⟩,⟨#[50,57]⟩⟩
def Ap (E:Int) (t:Fr):(Int × Int) × Int:=if E=0 then got 0 (Ao t) else ((0,0),E)
theorem Uo {r:(Int × Int) × Int} {x:(Int × Int)} {k:Int} (h:got 0 r=(x,k)):r.2=k∧(k=0→r.1=x)∧(k≠0→x=(0,0)):=by
 unfold got at h;rw [if_pos rfl] at h;split at h<;>cases h
 ·rename_i h0;exact ⟨h0,fun _=>rfl,fun h=>absurd rfl h⟩
 ·rename_i h0;exact ⟨rfl,fun h=>absurd h h0,fun _=>rfl⟩
theorem NH {r:Fr × Int} {x:Fr} {k:Int} (h:rY 0 r=(x,k)):r.2=k∧(k=0→r.1=x)∧(k≠0→x=zF):=by
 unfold rY at h;rw [if_pos rfl] at h;split at h<;>cases h
 ·rename_i h0;exact ⟨h0,fun _=>rfl,fun h=>absurd rfl h⟩
 ·rename_i h0;exact ⟨rfl,fun h=>absurd h h0,fun _=>rfl⟩
theorem vR {E:Int} (h:E≠0) (r:(Int × Int) × Int):got E r=((0,0),E):=by unfold got;rw [if_neg h]
theorem rX {E:Int} (h:E≠0) (r:Fr × Int):rY E r=(zF,E):=by unfold rY;rw [if_neg h]
theorem jD {α:Type} (r:α × Int) (f:α→(Int × Int) × Int):got 0 (aZ (0,0) r f)=if r.2=0 then got 0 (f r.1) else ((0,0),r.2):=by
 unfold aZ;split
 ·rfl
 ·rename_i h;unfold got;rw [if_pos rfl,if_neg h]
theorem mY (r:(Int × Int) × Int):got 0 r=if r.2=0 then (r.1,0) else ((0,0),r.2):=by unfold got;rw [if_pos rfl]
theorem WQ (r:Fr × Int):rY 0 r=if r.2=0 then (r.1,0) else (zF,r.2):=by unfold rY;rw [if_pos rfl]
theorem Og {s t:ByteArray} {E F u v:Int} (hE:E≠0) (h:((0,0),E)=((u,v),F)) {b:Nat} {w:World} (X:ah w b #[.int .i64 E] 100) :
  Calls Tryz.prog 57 #[.pointer (some ⟨b,0,none⟩),.agg #[.string s,.string t]] w (fun e w'=>e= .returned (.agg #[.int .i64 u,.int .i64 v])∧mh [b] w w'∧ah w' b #[.int .i64 F] 100):=by
 cases h
 refine Fx.door Tryz.func57 rfl (.one X) ?_;refine Fx.new [] 3 #[.string s,.string t] 32 [] [] fun dW=>?_;refine Fx.aL [] 4 40 [] [] fun dM=>?_;refine Fx.part 10 [3] [(13,.bool (!(E == 0)))] [] ?_;refine Fx.jo true (by simp [hE]) ?_;exact Fx.fV 2 dM [1,5] [(2,#[.int .i64 0,.int .i64 0])] (fun W M=>⟨rfl,M.tK,M.box (b:=b) 0⟩)
theorem ac0 {s t:ByteArray} {F u v x y E1 c c2:Int} (hc:uY ⟨s,t⟩ BA=(c,c2)) (hp:0<c) (h1:got 0 (aW.iC ⟨s,t⟩)=((x,y),E1)) (h2:got E1 (power.PX x y 1 3)=((u,v),F)) (hf:Fits ⟨s,t⟩) {b:Nat} {w:World} (X:ah w b #[.int .i64 0] 100) :
  Calls Tryz.prog 57 #[.pointer (some ⟨b,0,none⟩),.agg #[.string s,.string t]] w (fun e w'=>e= .returned (.agg #[.int .i64 u,.int .i64 v])∧mh [b] w w'∧ah w' b #[.int .i64 F] 100):=by
 have CC:∀ W,Calls Tryz.prog 136 #[.agg #[.string s,.string t],.agg #[.string ⟨#[50,49,54]⟩,.string ⟨#[50,52,51,56,57]⟩]] W (fun e w'=>e= .returned (.tuple #[.int .i64 c,.int .i64 c2])∧Below W.heap.size W w'):=fun W=>by
  have:=aC.Av ⟨s,t⟩ BA W hf Al;rw [hc] at this;exact this
 refine Fx.door Tryz.func57 rfl (.one X) ?_;refine Fx.new [] 3 #[.string s,.string t] 32 [] [] fun dW=>?_;refine Fx.aL [] 4 40 [] [] fun dM=>?_;refine Fx.draw [3,2] [0,1,2,3,4,5,5006,5007] [] [] [] ?_;refine Fx.call [4] 17 [(16,.agg #[.string s,.string t])] [] (fun W M=>Le _) ?_;refine Fx.aO [] 18 [] [] CC ?_;refine Fx.part 13 [] [(22,.bool (decide (0<c)))] [] ?_;refine Fx.jo true (decide_eq_true hp) ?_;refine Fx.iw [1,4] 26 0 [(23,.pointer (some ⟨b,0,none⟩))] [] (fun W M=>OQ h1 hf (M.box (b:=b) 0)) ?_;refine Fx.iw [] 27 0 [] [] (fun W M=>aD2 h2 (M.box (b:=b) 0)) ?_;exact Fx.fV 2 dM [5] [(2,#[.int .i64 u,.int .i64 v])] (fun W M=>⟨rfl,M.tK,M.box (b:=b) 0⟩)
theorem Am {s t m1 m2 l1 l2:ByteArray} {F u v c c2 S1 S2:Int} (hc:uY ⟨s,t⟩ BA=(c,c2)) (hp:¬ 0<c) (h1:rY 0 (pI WB ⟨s,t⟩)=(⟨m1,m2⟩,S1)) (h2:rY S1 (sK ⟨m1,m2⟩ k4)=(⟨l1,l2⟩,S2)) (hS:S2≠0) (h3:got 0 ((0,0),S2)=((u,v),F)) (hf:Fits ⟨s,t⟩) (hm:Fits ⟨m1,m2⟩) {b:Nat} {w:World} (X:ah w b #[.int .i64 0] 100) :
  Calls Tryz.prog 57 #[.pointer (some ⟨b,0,none⟩),.agg #[.string s,.string t]] w (fun e w'=>e= .returned (.agg #[.int .i64 u,.int .i64 v])∧mh [b] w w'∧ah w' b #[.int .i64 F] 100):=by
 have CC:∀ W,Calls Tryz.prog 136 #[.agg #[.string s,.string t],.agg #[.string ⟨#[50,49,54]⟩,.string ⟨#[50,52,51,56,57]⟩]] W (fun e w'=>e= .returned (.tuple #[.int .i64 c,.int .i64 c2])∧Below W.heap.size W w'):=fun W=>by
  have:=aC.Av ⟨s,t⟩ BA W hf Al;rw [hc] at this;exact this
 refine Fx.door Tryz.func57 rfl (.one X) ?_;refine Fx.new [] 3 #[.string s,.string t] 32 [] [] fun dW=>?_;refine Fx.aL [] 4 40 [] [] fun dM=>?_;refine Fx.draw [3,2] [0,1,2,3,4,5,5006,5007] [] [] [] ?_;refine Fx.call [4] 17 [(16,.agg #[.string s,.string t])] [] (fun W M=>Le _) ?_;refine Fx.aO [] 18 [] [] CC ?_;refine Fx.part 13 [] [(22,.bool (decide (0<c)))] [] ?_;refine Fx.jo false (decide_eq_false hp) ?_;refine Fx.aL [2] 7 130 [] [] fun dP=>?_;refine Fx.draw [] [1,0,2,3,4,5,6] [3] [] [] ?_;refine Fx.call [4] 28 [(29,.agg #[.string s,.string t])] [] (fun W M=>UZ _) ?_;refine Fx.iw [] 30 3 [] [] (fun W M=>aK.ae4 h1 Jb hf (M.box (b:=dP) 3)) ?_;refine Fx.call [] 31 [] [] (fun W M=>as5 _) ?_;refine Fx.iw [] 32 3 [] [] (fun W M=>aK.af6 h2 hm Uu (M.box (b:=dP) 3)) ?_;refine Fx.sS [] 8 32 [] [] fun xM=>?_
 refine Fx.part 10 [7,6] [(35,.bool (!(S2 == 0)))] [(4,#[.string l1,.string l2])] ?_;refine Fx.jo true (by simp [hS]) ?_;refine Fx.iw [1,6] 40 0 [] [] (fun W M=>wR h3 (M.box (b:=b) 0)) ?_;exact Fx.fV 2 dM [5] [(2,#[.int .i64 u,.int .i64 v])] (fun W M=>⟨rfl,M.tK,M.box (b:=b) 0⟩)
theorem Rk {s t m1 m2 l1 l2:ByteArray} {F u v c c2 S1 S2:Int} (hc:uY ⟨s,t⟩ BA=(c,c2)) (hp:¬ 0<c) (h1:rY 0 (pI WB ⟨s,t⟩)=(⟨m1,m2⟩,S1)) (h2:rY S1 (sK ⟨m1,m2⟩ k4)=(⟨l1,l2⟩,S2)) (hS:S2=0) (h3:got 0 (aW.iC ⟨l1,l2⟩)=((u,v),F)) (hl:Fits ⟨l1,l2⟩) (hf:Fits ⟨s,t⟩) (hm:Fits ⟨m1,m2⟩) {b:Nat} {w:World} (X:ah w b #[.int .i64 0] 100) :
  Calls Tryz.prog 57 #[.pointer (some ⟨b,0,none⟩),.agg #[.string s,.string t]] w (fun e w'=>e= .returned (.agg #[.int .i64 u,.int .i64 v])∧mh [b] w w'∧ah w' b #[.int .i64 F] 100):=by
 have CC:∀ W,Calls Tryz.prog 136 #[.agg #[.string s,.string t],.agg #[.string ⟨#[50,49,54]⟩,.string ⟨#[50,52,51,56,57]⟩]] W (fun e w'=>e= .returned (.tuple #[.int .i64 c,.int .i64 c2])∧Below W.heap.size W w'):=fun W=>by
  have:=aC.Av ⟨s,t⟩ BA W hf Al;rw [hc] at this;exact this
 refine Fx.door Tryz.func57 rfl (.one X) ?_;refine Fx.new [] 3 #[.string s,.string t] 32 [] [] fun dW=>?_;refine Fx.aL [] 4 40 [] [] fun dM=>?_;refine Fx.draw [3,2] [0,1,2,3,4,5,5006,5007] [] [] [] ?_;refine Fx.call [4] 17 [(16,.agg #[.string s,.string t])] [] (fun W M=>Le _) ?_;refine Fx.aO [] 18 [] [] CC ?_;refine Fx.part 13 [] [(22,.bool (decide (0<c)))] [] ?_;refine Fx.jo false (decide_eq_false hp) ?_;refine Fx.aL [2] 7 130 [] [] fun dP=>?_;refine Fx.draw [] [1,0,2,3,4,5,6] [3] [] [] ?_;refine Fx.call [4] 28 [(29,.agg #[.string s,.string t])] [] (fun W M=>UZ _) ?_;refine Fx.iw [] 30 3 [] [] (fun W M=>aK.ae4 h1 Jb hf (M.box (b:=dP) 3)) ?_;refine Fx.call [] 31 [] [] (fun W M=>as5 _) ?_;refine Fx.iw [] 32 3 [] [] (fun W M=>aK.af6 h2 hm Uu (M.box (b:=dP) 3)) ?_;refine Fx.sS [] 8 32 [] [] fun xM=>?_
 refine Fx.part 10 [7,6] [(35,.bool (!(S2 == 0)))] [(4,#[.string l1,.string l2])] ?_;refine Fx.jo false (by simp [hS]) ?_;refine Fx.iw [2,7] 43 0 [] [] (fun W M=>OQ h3 hl (M.box (b:=b) 0)) ?_;exact Fx.fV 2 dM [5] [(2,#[.int .i64 u,.int .i64 v])] (fun W M=>⟨rfl,M.tK,M.box (b:=b) 0⟩)
theorem KF {s t:ByteArray} {E F u v:Int} (h:Ap E ⟨s,t⟩=((u,v),F)) (hf:Fits ⟨s,t⟩) {b:Nat} {w:World} (X:ah w b #[.int .i64 E] 100) :
  Calls Tryz.prog 57 #[.pointer (some ⟨b,0,none⟩),.agg #[.string s,.string t]] w (fun e w'=>e= .returned (.agg #[.int .i64 u,.int .i64 v])∧mh [b] w w'∧ah w' b #[.int .i64 F] 100):=by
 unfold Ap at h;split at h
 rotate_left
 ·rename_i h0;exact Og h0 h X
 rename_i h0;subst h0;unfold Ao at h;rw [jD,Uf] at h;simp only [if_true] at h;obtain ⟨⟨c,c2⟩,hc⟩:∃ z,uY ⟨s,t⟩ BA=z:=⟨_,rfl⟩;have ha:vg ⟨s,t⟩ BA=if c2=0 then (decide (0<c),0) else (false,c2):=by unfold vg aZ;rw [hc];rfl
 have hcc:c2≠0→c=0∧c2=20∧rd ⟨s,t⟩=none:=fun hn=>by
  have k1:rd BA=some ((216:Int) / (24389:Int):Rat):=by
   have:BA=Fr.of ((216:Int) / (24389:Int):Rat):=by decide+kernel
   rw [this];exact Tw (by decide+kernel)
  unfold uY at hc;rw [k1] at hc;cases hr:rd ⟨s,t⟩ with
  | none=>rw [hr] at hc;cases hc;exact ⟨rfl,rfl,rfl⟩
  | some q=>rw [hr] at hc;cases hc;exact absurd rfl hn
 rw [jD,ha] at h;obtain ⟨⟨⟨m1,m2⟩,S1⟩,h1⟩:∃ z,rY 0 (pI WB ⟨s,t⟩)=z:=⟨_,rfl⟩;obtain ⟨⟨⟨l1,l2⟩,S2⟩,h2⟩:∃ z,rY S1 (sK ⟨m1,m2⟩ k4)=z:=⟨_,rfl⟩;have hm:=NW (aa7 _ _) h1;have hl:=NW (aa8 _ _) h2
 by_cases hn:c2=0
 ·rw [if_pos hn] at h;simp only [if_true] at h
  by_cases hp:0<c
  ·rw [decide_eq_true hp] at h;simp only [cond_true] at h;rw [jD] at h;obtain ⟨⟨⟨x,y⟩,E1⟩,e1⟩:∃ z,got 0 (aW.iC ⟨s,t⟩)=z:=⟨_,rfl⟩;obtain ⟨g1,g2,g3⟩:=Uo e1;refine ac0 hc hp e1 (u:=u) (v:=v) (F:=F) ?_ hf X;rw [g1] at h
   by_cases hE:E1=0
   ·rw [if_pos hE,g2 hE,jD] at h;subst hE;rw [mY];exact h
   ·rw [if_neg hE] at h;rw [vR hE];exact h
  ·rw [decide_eq_false hp] at h;simp only [cond_false] at h;rw [jD,Ue] at h;simp only [if_true] at h;rw [jD] at h;obtain ⟨g1,g2,g3⟩:=NH h1;rw [g1] at h
   by_cases hS1:S1=0
   ·rw [if_pos hS1,g2 hS1,jD,ar2] at h;simp only [if_true] at h;rw [jD] at h;subst hS1;obtain ⟨g4,g5,g6⟩:=NH h2;rw [g4] at h
    by_cases hS2:S2=0
    ·rw [if_pos hS2,g5 hS2,jD] at h;refine Rk hc hp h1 h2 hS2 (u:=u) (v:=v) (F:=F) ?_ hl hf hm X;rw [mY];exact h
    ·rw [if_neg hS2] at h;refine Am hc hp h1 h2 hS2 (u:=u) (v:=v) (F:=F) ?_ hf hm X;rw [mY,if_neg hS2];exact h
   ·rw [if_neg hS1] at h;rw [rX hS1] at h2;cases h2
    refine Am hc hp h1 (rX hS1 _) hS1 (u:=u) (v:=v) (F:=F) ?_ hf hm X;rw [mY,if_neg hS1];exact h
 ·rw [if_neg hn] at h;obtain ⟨rfl,rfl,hr⟩:=hcc hn;simp only at h;rw [if_neg zd] at h;have hmul:pI WB ⟨s,t⟩=(Fr.no,20):=by unfold pI;exact nZ hr
  rw [hmul,WQ,if_neg zd] at h1;cases h1
  rw [rX zd] at h2;cases h2
  refine Am hc zd (by rw [hmul];rfl) (rX zd _) zd (u:=u) (v:=v) (F:=F) ?_ hf hm X;rw [mY,if_neg zd];exact h
end Go.Proofs.bQ
namespace Go.Proofs.aK
open Go Go.RowKit Go.SW Go.Num Go.Mem Go.Proofs Go.Dec Go.fF Go.Proofs.aC Go.Proofs.light
theorem qj (a:Fr) (w:World) (hf:Fits a):Calls Tryz.prog 107 #[a.v] w (fun e w'=>e= .returned (.int .i64 (gW a).1)∧Below w.heap.size w w'):=by
 have H1:=zh (fun W=>aC.qj a W hf);obtain ⟨⟨k,j⟩,E⟩:∃ y,gW a=y:=⟨_,rfl⟩;rw [E] at H1 ⊢;obtain ⟨s,t⟩:=a;unfold Fr.v at *;clear E hf;go_enter Tryz.func107,Tryz.ntmps107
 go_wp2_with fail
 obtain ⟨jN,EW,hz,X1⟩:=wO w #[.string s,.string t] 32;rw [EW];have hk2:=Bt (Below.refl _ _) hz;clear EW hz;refine (H1.out _).mono ?_;rintro e kE ⟨rfl,hb3⟩;replace X1:=X1.bl hb3;have hk5:=Bt hk2 hb3;clear hk2;clear hb3;go_wp2_with fail
 go_ret
 exact ⟨rfl,hk5⟩
theorem ae9 (v:Value) (l:List Fr) (T:TypeId) (w:World) (h:XM w T v l) (hf:∀ x∈l,Fits x) :
  Calls Tryz.prog 85 #[v] w (fun e w'=>e= .returned (.int .i64 (sH l))∧Below w.heap.size w w'):=by
 obtain ⟨a,cap,rfl,hc1,hc2,hread⟩:=h.read;have H:=zh hread;have HF:=zh hf;clear h hread hf;go_enter Tryz.func85,Tryz.ntmps85
 go_wp2_with fail
 go_loopw [3] (fun iv wr=>∃ k:Nat,iv= .int .i64 (k:Int)∧k≤l.length∧Hid (∀ j (h:j<l.length),j<k→(rd l[j]).isSome=true)∧Below w.heap.size w wr) (fun iv _=>l.length - (intOf iv).toNat)
 case atStart=>exact ⟨0,rfl,by omega,zh (fun j _ h=>by omega),Below.refl _ _⟩
 case round =>
  obtain ⟨k,rfl,hk,HK,hb⟩:=hrel
  rcases Nat.lt_or_ge k l.length with hlt|hge
  ·obtain ⟨b,off,rfl,hbl,hx1,hx2⟩:=H.out k hlt;have hc1:=(hb.cell (p:=⟨b,off+k*2,none⟩) hbl).trans hx1;have hc2:=(hb.cell (p:=⟨b,off+k*2+1,none⟩) hbl).trans hx2;clear hx1 hx2;have hck:=fun W=>gD l[k] W (HF.out _ (List.getElem_mem hlt));generalize hlk:l[k]=lk at *;obtain ⟨s,t⟩:=lk;cases hv:(rd ⟨s,t⟩).isSome with
   | true =>
    rw [Oh hv] at hck;have HCK:Hid (∀ w,Calls Tryz.prog 169 #[.agg #[.string s,.string t]] w (fun e w'=>e= .returned (.int .i64 0)∧Below w.heap.size w w')):=zh hck;have HLK:=zh hlk;have HV:=zh hv;clear hck hlk hv;go_wp2_with fail
    refine (HCK.out _).mono ?_;rintro e v1 ⟨rfl,hc1⟩;go_wp2_with fail
    go_roundw
    case rel =>
     refine ⟨k+1,by go_num,by omega,zh fun j hj hjk=>?_,Bt hb aD⟩
     rcases Nat.lt_or_ge j k with h|h
     ·exact HK.out j hj h
     ·obtain rfl:j=k:=by omega
      rw [HLK.out];exact HV.out
    case measure=>exact zM
   | false =>
    rw [ac1 hv] at hck;have HCK:Hid (∀ w,Calls Tryz.prog 169 #[.agg #[.string s,.string t]] w (fun e w'=>e= .returned (.int .i64 20)∧Below w.heap.size w w')):=zh hck
    have hno:sH l=20:=by
     unfold sH;rw [if_neg];intro h;have:=List.all_eq_true.1 h l[k] (List.getElem_mem _);rw [hlk,hv] at this;cases this
    have HNO:=zh hno;clear hck hlk hv hno;go_wp2_with fail
    refine (HCK.out _).mono ?_;rintro e v1 ⟨rfl,hc1⟩;go_wp2_with fail
    go_ret
    exact ⟨by rw [HNO.out];rfl,Bt hb aD⟩
  ·have hyes:sH l=0:=by
    unfold sH;rw [if_pos];rw [List.all_eq_true];intro x hx;obtain ⟨j,hj,rfl⟩:=List.getElem_of_mem hx;exact HK.out j hj zo
   have aD8:=zh hyes;clear hyes;obtain rfl:k=l.length:=by omega
   go_wp2_with fail
   go_ret
   exact ⟨by rw [aD8.out];rfl,hb⟩
def jS (t:gK):Prop:=∀ i,i<3→Fits (t.get i)
theorem jS.mem {t:gK} (h:jS t):∀ x∈t.list,Fits x:=fun x hx=>by
 simp only [gK.list,List.mem_cons,List.not_mem_nil,or_false] at hx
 rcases hx with rfl|rfl|rfl
 ·exact h 0 zo
 ·exact h 1 zo
 ·exact h 2 zo
theorem gK.at {w:World} {b:Nat} {t:gK} {T:TypeId} (h:ah w b t.cells T) {k:Nat} (hk:k<3):w.cell? ⟨b,k*2,none⟩=some (.string (t.get k).n)∧w.cell? ⟨b,k*2+1,none⟩=some (.string (t.get k).d):=by
 have hc:k=0∨k=1∨k=2:=by omega
 rcases hc with rfl|rfl|rfl<;>exact ⟨h.cell _,h.cell _⟩
theorem XY {t:gK} (h:∀ i,i<3→decide ((fun f:Fr=>0≤(gW f).1) (t.get i))=true):t.list.all (fun f=>decide (0≤(gW f).1))=true:=by
 have h0:=h 0 zo;have h1:=h 1 zo;have h2:=h 2 zo;simp only [gK.list,List.all_cons,List.all_nil,Bool.and_true,Bool.and_eq_true];exact ⟨h0,h1,h2⟩
theorem af5 {t:gK} {i:Nat} (hi:i<3) (h:decide ((fun f:Fr=>0≤(gW f).1) (t.get i))=false):t.list.all (fun f=>decide (0≤(gW f).1))=false:=by
 have hc:i=0∨i=1∨i=2:=by omega
 simp only [gK.list,List.all_cons,List.all_nil,Bool.and_true]
 rcases hc with rfl|rfl|rfl
 ·have h:decide ((fun f:Fr=>0≤(gW f).1) t.x)=false:=h;simp only at h;rw [h];rfl
 ·have h:decide ((fun f:Fr=>0≤(gW f).1) t.y)=false:=h;simp only at h;rw [h];simp
 ·have h:decide ((fun f:Fr=>0≤(gW f).1) t.z)=false:=h;simp only at h;rw [h];simp
theorem Xr {t:gK} (h:∀ i,i<3→decide ((fun f:Fr=>(gW f).1≠0) (t.get i))=true):t.list.all (fun f=>decide ((gW f).1≠0))=true:=by
 have h0:=h 0 zo;have h1:=h 1 zo;have h2:=h 2 zo;simp only [gK.list,List.all_cons,List.all_nil,Bool.and_true,Bool.and_eq_true];exact ⟨h0,h1,h2⟩
theorem ad9 {t:gK} {i:Nat} (hi:i<3) (h:decide ((fun f:Fr=>(gW f).1≠0) (t.get i))=false):t.list.all (fun f=>decide ((gW f).1≠0))=false:=by
 have hc:i=0∨i=1∨i=2:=by omega
 simp only [gK.list,List.all_cons,List.all_nil,Bool.and_true]
 rcases hc with rfl|rfl|rfl
 ·have h:decide ((fun f:Fr=>(gW f).1≠0) t.x)=false:=h;simp only at h;rw [h];rfl
 ·have h:decide ((fun f:Fr=>(gW f).1≠0) t.y)=false:=h;simp only at h;rw [h];simp
 ·have h:decide ((fun f:Fr=>(gW f).1≠0) t.z)=false:=h;simp only at h;rw [h];simp
theorem UF {t:gK} (h:sH t.list≠0):lW t=20∧sH t.list=20:=by
 unfold lW;rw [if_neg h];refine ⟨rfl,?_⟩;unfold sH at *;split at h
 ·exact absurd rfl h
 ·rename_i h2;rw [if_neg h2]
def OO (t:gK):Prop:=sH t.list=0
def OM (t:gK):Prop:=lW t=0
theorem aq5 {t:gK} (h0:OO t) {G:Nat→Fr} (hG:∀ k,k<3→t.get k=G k):(∀ k,k<3→decide ((fun f:Fr=>0≤(gW f).1) (G k))=false→lW t=2)∧((∀ k,k<3→decide ((fun f:Fr=>0≤(gW f).1) (G k))=true)→lW t=0):=by
 unfold lW;unfold OO at h0;rw [if_pos h0];refine ⟨fun k hk h=>?_,fun h=>?_⟩
 ·rw [if_neg];rw [af5 hk (by rw [hG k hk];exact h)];simp
 ·rw [if_pos];exact XY fun i hi=>by rw [hG i hi];exact h i hi
theorem ap0 {t:gK} (h0:OM t) {G:Nat→Fr} (hG:∀ k,k<3→t.get k=G k):(∀ k,k<3→decide ((fun f:Fr=>(gW f).1≠0) (G k))=false→nS t=2)∧((∀ k,k<3→decide ((fun f:Fr=>(gW f).1≠0) (G k))=true)→nS t=0):=by
 unfold nS;unfold OM at h0;rw [if_pos h0];refine ⟨fun k hk h=>?_,fun h=>?_⟩
 ·rw [if_neg];rw [ad9 hk (by rw [hG k hk];exact h)];simp
 ·rw [if_pos];exact Xr fun i hi=>by rw [hG i hi];exact h i hi
theorem gD (t:gK) (w:World) (hf:jS t):Calls Tryz.prog 53 #[t.v] w (fun e w'=>e= .returned (.int .i64 (lW t))∧Below w.heap.size w w'):=by
 have FR:=zh (fun W b (h:ah W b t.cells 32)=>ae9 _ _ _ W (gK.frs h) hf.mem)
 by_cases hc:sH t.list=0
 rotate_left
 ·rw [(UF hc).1];rw [(UF hc).2] at FR;obtain ⟨⟨x1,x2⟩,⟨x3,x4⟩,⟨x5,x6⟩⟩:=t;unfold gK.cells at FR;unfold gK.v gK.cells;clear hc hf;go_enter Tryz.func53,Tryz.ntmps53
  go_wp2_with fail
  refine (FR.out _ _ (ah.pF _ _ _ _)).mono ?_;rintro e w1 ⟨rfl,hb⟩;go_wp2_with fail
  go_ret
  exact ⟨rfl,Bt aD hb⟩
 rw [hc] at FR;obtain ⟨G,eG⟩:∃ G,t.get=G:=⟨_,rfl⟩;have hG:∀ k,k<3→t.get k=G k:=fun k _=>by rw [eG]
 obtain ⟨h2,h0⟩:=aq5 hc hG;have H2:=zh h2;have H0:=zh h0;have SG:Hid (∀ k,k<3→∀ W,Calls Tryz.prog 107 #[(G k).v] W (fun e w'=>e= .returned (.int .i64 (gW (G k)).1)∧Below W.heap.size W w')):=zh fun k hk W=>by rw [← hG k hk];exact qj _ W (hf k hk)
 have AT:Hid (∀ (W:World) b,ah W b t.cells 34→∀ k,k<3→W.cell? ⟨b,k*2,none⟩=some (.string (G k).n)∧W.cell? ⟨b,k*2+1,none⟩=some (.string (G k).d)):=zh fun W b h k hk=>by rw [← hG k hk];exact gK.at h hk
 generalize lW t=z at *;obtain ⟨⟨x1,x2⟩,⟨x3,x4⟩,⟨x5,x6⟩⟩:=t;unfold gK.cells at FR AT;unfold gK.v gK.cells;clear hc hf hG eG h2 h0;have X:=zh (ah.new w #[.string x1,.string x2,.string x3,.string x4,.string x5,.string x6] 34);go_enter Tryz.func53,Tryz.ntmps53
 go_wp2_with fail
 refine (FR.out _ _ (ah.pF _ _ _ _)).mono ?_;rintro e wl ⟨rfl,hb⟩;have HB:=zh (Bt (w:=w) aD hb);replace X:=zh ((X.out.alloc _).later hb);generalize w.heap.size=p at X;clear hb;go_wp2_with fail
 go_loopw [4] (fun iv wr=>∃ k:Nat,iv= .int .i64 (k:Int)∧k≤3∧Hid (∀ j,j<k→decide ((fun f:Fr=>0≤(gW f).1) (G j))=true)∧Below wl.heap.size wl wr) (fun iv _=>3 - (intOf iv).toNat)
 case atStart=>exact ⟨0,rfl,by omega,zh (fun j h=>by omega),Below.refl _ _⟩
 case round =>
  obtain ⟨k,rfl,hk,HK,hb⟩:=hrel
  rcases Nat.lt_or_ge k 3 with hlt|hge
  ·obtain ⟨c1,c2⟩:=AT.out wr p (X.out.later hb) k hlt;have l1:=(X.out.later hb).lt;have hs:=SG.out k hlt;have H2K:=zh (H2.out k hlt);generalize hgk:G k=g at *;have HGK:=zh hgk;obtain ⟨s,t⟩:=g;generalize hsg:(gW ⟨s,t⟩).1=sg at *;have Sq:=zh hsg;have S:Hid (∀ W,Calls Tryz.prog 107 #[.agg #[.string s,.string t]] W (fun e w'=>e= .returned (.int .i64 sg)∧Below W.heap.size W w')):=zh hs;clear hs hsg hgk
   by_cases hn:sg<0
   ·have HN:=zh hn;clear hn;have hn1:decide (sg<0)=true:=decide_eq_true HN.out;go_wp2_with fail
    refine (S.out _).mono ?_;rintro e v1 ⟨rfl,hc1⟩;go_wp2_with fail
    go_ret
    exact ⟨by rw [H2K.out (by rw [decide_eq_false_iff_not];have:=HN.out;have:=Sq.out;omega)];rfl,Bt HB.out (Bt hb aD)⟩
   ·have HN:=zh hn;clear hn;have hn1:decide (sg<0)=false:=decide_eq_false HN.out;go_wp2_with fail
    refine (S.out _).mono ?_;rintro e v1 ⟨rfl,hc1⟩;go_wp2_with fail
    go_roundw
    case rel =>
     refine ⟨k+1,by go_num,by omega,zh fun j hj=>?_,Bt hb aD⟩
     rcases Nat.lt_or_ge j k with h|h
     ·exact HK.out j h
     ·obtain rfl:j=k:=by omega
      rw [HGK.out,decide_eq_true_iff];have:=HN.out;have:=Sq.out;omega
    case measure=>exact zM
  ·obtain rfl:k=3:=by omega
   have HZ:=zh (H0.out HK.out);go_wp2_with fail
   go_ret
   exact ⟨by rw [HZ.out];rfl,Bt HB.out hb⟩
theorem vw (t:gK) (w:World) (hf:jS t):Calls Tryz.prog 54 #[t.v] w (fun e w'=>e= .returned (.int .i64 (nS t))∧Below w.heap.size w w'):=by
 have CK:=zh (fun W=>gD t W hf)
 by_cases hc:lW t=0
 rotate_left
 ·rw [show nS t=lW t by unfold nS;rw [if_neg hc]];have hz:(lW t == 0)=false:=beq_eq_false_iff_ne.2 hc;obtain ⟨⟨x1,x2⟩,⟨x3,x4⟩,⟨x5,x6⟩⟩:=t;unfold gK.v gK.cells at *;generalize lW ⟨⟨x1,x2⟩,⟨x3,x4⟩,⟨x5,x6⟩⟩=z at *;have HC:=zh hc;clear hc hf;go_enter Tryz.func54,Tryz.ntmps54
  go_wp2_with fail
  refine (CK.out _).mono ?_;rintro e w1 ⟨rfl,hb⟩;go_wp2_with fail
  go_ret
  exact ⟨rfl,Bt aD hb⟩
 rw [hc] at CK;obtain ⟨G,eG⟩:∃ G,t.get=G:=⟨_,rfl⟩;have hG:∀ k,k<3→t.get k=G k:=fun k _=>by rw [eG]
 obtain ⟨h2,h0⟩:=ap0 hc hG;have H2:=zh h2;have H0:=zh h0;have SG:Hid (∀ k,k<3→∀ W,Calls Tryz.prog 107 #[(G k).v] W (fun e w'=>e= .returned (.int .i64 (gW (G k)).1)∧Below W.heap.size W w')):=zh fun k hk W=>by rw [← hG k hk];exact qj _ W (hf k hk)
 have AT:Hid (∀ (W:World) b,ah W b t.cells 34→∀ k,k<3→W.cell? ⟨b,k*2,none⟩=some (.string (G k).n)∧W.cell? ⟨b,k*2+1,none⟩=some (.string (G k).d)):=zh fun W b h k hk=>by rw [← hG k hk];exact gK.at h hk
 generalize nS t=z at *;obtain ⟨⟨x1,x2⟩,⟨x3,x4⟩,⟨x5,x6⟩⟩:=t;unfold gK.cells at AT;unfold gK.v gK.cells at *;clear hc hf hG eG h2 h0;have X:=zh (ah.new w #[.string x1,.string x2,.string x3,.string x4,.string x5,.string x6] 34);go_enter Tryz.func54,Tryz.ntmps54
 go_wp2_with fail
 refine (CK.out _).mono ?_;rintro e wl ⟨rfl,hb⟩;have HB:=zh (Bt (w:=w) aD hb);replace X:=zh (X.out.later hb);generalize w.heap.size=p at X;clear hb CK;go_wp2_with fail
 go_loopw [4] (fun iv wr=>∃ k:Nat,iv= .int .i64 (k:Int)∧k≤3∧Hid (∀ j,j<k→decide ((fun f:Fr=>(gW f).1≠0) (G j))=true)∧Below wl.heap.size wl wr) (fun iv _=>3 - (intOf iv).toNat)
 case atStart=>exact ⟨0,rfl,by omega,zh (fun j h=>by omega),Below.refl _ _⟩
 case round =>
  obtain ⟨k,rfl,hk,HK,hb⟩:=hrel
  rcases Nat.lt_or_ge k 3 with hlt|hge
  ·obtain ⟨c1,c2⟩:=AT.out wr p (X.out.later hb) k hlt;have l1:=(X.out.later hb).lt;have hs:=SG.out k hlt;have H2K:=zh (H2.out k hlt);generalize hgk:G k=g at *;have HGK:=zh hgk;obtain ⟨s,t⟩:=g;generalize hsg:(gW ⟨s,t⟩).1=sg at *;have Sq:=zh hsg;have S:Hid (∀ W,Calls Tryz.prog 107 #[.agg #[.string s,.string t]] W (fun e w'=>e= .returned (.int .i64 sg)∧Below W.heap.size W w')):=zh hs;clear hs hsg hgk
   by_cases hn:sg=0
   ·have HN:=zh hn;clear hn;have hn1:(sg == 0)=true:=beq_iff_eq.2 HN.out;go_wp2_with fail
    refine (S.out _).mono ?_;rintro e v1 ⟨rfl,hc1⟩;go_wp2_with fail
    go_ret
    exact ⟨by rw [H2K.out (by rw [decide_eq_false_iff_not];have:=HN.out;have:=Sq.out;omega)];rfl,Bt HB.out (Bt hb aD)⟩
   ·have HN:=zh hn;clear hn;have hn1:(sg == 0)=false:=beq_eq_false_iff_ne.2 HN.out;go_wp2_with fail
    refine (S.out _).mono ?_;rintro e v1 ⟨rfl,hc1⟩;go_wp2_with fail
    go_roundw
    case rel =>
     refine ⟨k+1,by go_num,by omega,zh fun j hj=>?_,Bt hb aD⟩
     rcases Nat.lt_or_ge j k with h|h
     ·exact HK.out j h
     ·obtain rfl:j=k:=by omega
      rw [HGK.out,decide_eq_true_iff];have:=HN.out;have:=Sq.out;omega
    case measure=>exact zM
  ·obtain rfl:k=3:=by omega
   have HZ:=zh (H0.out HK.out);go_wp2_with fail
   go_ret
   exact ⟨by rw [HZ.out];rfl,Bt HB.out hb⟩
end Go.Proofs.aK
namespace Go.Proofs.bQ
open Go Go.RowKit Go.SW Go.Num Go.Mem Go.Proofs Go.fF Go.Fx Go.Proofs.aC Go.Proofs.aK Go.Proofs.lab
theorem La {E p q n d u v F:Int} (h:got E (aW.sV (p,q) n d)=((u,v),F)) {b:Nat} {w:World} (X:ah w b #[.int .i64 E] 100) (hn1: -9223372036854775808≤n:=by omega) (hn2:n≤9223372036854775807:=by omega) (hd1: -9223372036854775808≤d:=by omega) (hd2:d≤9223372036854775807:=by omega) :
  Calls Tryz.prog 59 #[.pointer (some ⟨b,0,none⟩),.agg #[.int .i64 p,.int .i64 q],.int .i64 n,.int .i64 d] w (fun e w'=>e= .returned (.agg #[.int .i64 u,.int .i64 v])∧mh [b] w w'∧ah w' b #[.int .i64 F] 100):=by
 obtain ⟨⟨⟨x,y⟩,k⟩,hr⟩:∃ z,aW.sV (p,q) n d=z:=⟨_,rfl⟩;have C:=fun W=>aN.Gn p q n d W hn1 hn2 hd1 hd2;rw [hr] at C h;refine Fx.door Tryz.func59 rfl (.one X) ?_;refine Fx.new [] 5 #[.int .i64 p,.int .i64 q] 40 [] [] fun dW=>?_;refine Fx.aL [] 8 40 [] [] fun dM=>?_;refine Fx.aO [4] 15 [] [] C ?_;refine Fx.aL [] 9 40 [(16,.agg #[.int .i64 x,.int .i64 y]),(17,.int .i64 k)] [] fun dP=>?_;refine Fx.iw [6,6] 21 0 [] [(3,#[.int .i64 x,.int .i64 y])] (fun W M=>wR h (M.box (b:=b) 0)) ?_;exact Fx.fV 2 dM [5] [(2,#[.int .i64 u,.int .i64 v])] (fun W M=>⟨rfl,M.tK,M.box (b:=b) 0⟩)
theorem ad5 (w:World):Calls Tryz.prog 60 #[.int .i64 16] w (fun e w'=>e= .returned (.agg #[.int .i64 16000000000000,.int .i64 16000000000000])∧Below w.heap.size w w'):=by
 refine Fx.door Tryz.func60 rfl (.nil w []) ?_;refine Fx.aL [] 2 40 [] [] fun dW=>?_;exact Fx.fV 0 dW [3] [(0,#[.int .i64 16000000000000,.int .i64 16000000000000])] (fun W M=>⟨rfl,M.below⟩)
theorem FH {E:Int} (h:E≠0) (t:Fr):Ap E t=((0,0),E):=by unfold Ap;rw [if_neg h]
theorem WU (t:Fr):Ap 0 t=got 0 (Ao t):=by unfold Ap;rw [if_pos rfl]
theorem Sb {a1 a2 a3 a4 a5 a6 b1 b2 b3 b4 b5 b6:ByteArray} {k:Int} (ha:jS ⟨⟨a1,a2⟩,⟨a3,a4⟩,⟨a5,a6⟩⟩) (hk:light.lW ⟨⟨a1,a2⟩,⟨a3,a4⟩,⟨a5,a6⟩⟩=k) (h0:k≠0) (w:World) :
  Calls Tryz.prog 15 #[.agg #[.string a1,.string a2,.string a3,.string a4,.string a5,.string a6],.agg #[.string b1,.string b2,.string b3,.string b4,.string b5,.string b6]] w (fun e w'=>e= .returned (.tuple #[.agg #[.int .i64 0,.int .i64 0,.int .i64 0,.int .i64 0,.int .i64 0,.int .i64 0],.int .i64 k])∧Below w.heap.size w w'):=by
 have HC:∀ W,Calls Tryz.prog 53 #[.agg #[.string a1,.string a2,.string a3,.string a4,.string a5,.string a6]] W (fun e w'=>e= .returned (.int .i64 k)∧Below W.heap.size W w'):=fun W=>hk ▸ aK.gD ⟨⟨a1,a2⟩,⟨a3,a4⟩,⟨a5,a6⟩⟩ W ha;refine Fx.door Tryz.func15 rfl (.nil w []) ?_;refine Fx.new [] 2 #[.string a1,.string a2,.string a3,.string a4,.string a5,.string a6] 34 [] [] fun dW=>?_;refine Fx.new [] 3 #[.string b1,.string b2,.string b3,.string b4,.string b5,.string b6] 34 [] [] fun dM=>?_;refine Fx.aL [] 4 42 [] [] fun dP=>?_;refine Fx.aO [3] 15 [] [] HC ?_;refine Fx.part 7 [] [(17,.bool (!(k == 0))),(6,.int .i64 k)] [] ?_;refine Fx.jo true (by simp [h0]) ?_;exact Fx.dw 2 dP [1,5] [(2,#[.int .i64 0,.int .i64 0,.int .i64 0,.int .i64 0,.int .i64 0,.int .i64 0])] (fun W M=>⟨rfl,M.below⟩)
theorem RZ {a1 a2 a3 a4 a5 a6 b1 b2 b3 b4 b5 b6:ByteArray} {k:Int} (ha:jS ⟨⟨a1,a2⟩,⟨a3,a4⟩,⟨a5,a6⟩⟩) (hb:jS ⟨⟨b1,b2⟩,⟨b3,b4⟩,⟨b5,b6⟩⟩) (h1:light.lW ⟨⟨a1,a2⟩,⟨a3,a4⟩,⟨a5,a6⟩⟩=0) (hk:light.nS ⟨⟨b1,b2⟩,⟨b3,b4⟩,⟨b5,b6⟩⟩=k) (h0:k≠0) (w:World) :
  Calls Tryz.prog 15 #[.agg #[.string a1,.string a2,.string a3,.string a4,.string a5,.string a6],.agg #[.string b1,.string b2,.string b3,.string b4,.string b5,.string b6]] w (fun e w'=>e= .returned (.tuple #[.agg #[.int .i64 0,.int .i64 0,.int .i64 0,.int .i64 0,.int .i64 0,.int .i64 0],.int .i64 k])∧Below w.heap.size w w'):=by
 have HC:∀ W,Calls Tryz.prog 53 #[.agg #[.string a1,.string a2,.string a3,.string a4,.string a5,.string a6]] W (fun e w'=>e= .returned (.int .i64 0)∧Below W.heap.size W w'):=fun W=>h1 ▸ aK.gD ⟨⟨a1,a2⟩,⟨a3,a4⟩,⟨a5,a6⟩⟩ W ha;have HS:∀ W,Calls Tryz.prog 54 #[.agg #[.string b1,.string b2,.string b3,.string b4,.string b5,.string b6]] W (fun e w'=>e= .returned (.int .i64 k)∧Below W.heap.size W w'):=fun W=>hk ▸ aK.vw ⟨⟨b1,b2⟩,⟨b3,b4⟩,⟨b5,b6⟩⟩ W hb;refine Fx.door Tryz.func15 rfl (.nil w []) ?_;refine Fx.new [] 2 #[.string a1,.string a2,.string a3,.string a4,.string a5,.string a6] 34 [] [] fun dW=>?_;refine Fx.new [] 3 #[.string b1,.string b2,.string b3,.string b4,.string b5,.string b6] 34 [] [] fun dM=>?_;refine Fx.aL [] 4 42 [] [] fun dP=>?_;refine Fx.aO [3] 15 [] [] HC ?_;refine Fx.aO [2,4] 21 [] [] HS ?_
 refine Fx.part 7 [] [(23,.bool (!(k == 0))),(7,.int .i64 k)] [] ?_;refine Fx.jo true (by simp [h0]) ?_;exact Fx.dw 2 dP [1,5] [(2,#[.int .i64 0,.int .i64 0,.int .i64 0,.int .i64 0,.int .i64 0,.int .i64 0])] (fun W M=>⟨rfl,M.below⟩)
theorem Gl {a1 a2 a3 a4 a5 a6 b1 b2 b3 b4 b5 b6 q0 r0 q1 r1 q2 r2:ByteArray} {k0 s0 t0 G0 k1 s1 t1 G1 k2 s2 t2 G2 x0 y0 F0 x1 y1 F1 x2 y2 F2 x3 y3 F3 x4 y4 F4 x5 y5 F5 x6 y6 F6 x7 y7 F7 x8 y8 F8:Int} (ha:jS ⟨⟨a1,a2⟩,⟨a3,a4⟩,⟨a5,a6⟩⟩) (hb:jS ⟨⟨b1,b2⟩,⟨b3,b4⟩,⟨b5,b6⟩⟩) (h1:light.lW ⟨⟨a1,a2⟩,⟨a3,a4⟩,⟨a5,a6⟩⟩=0) (h2:light.nS ⟨⟨b1,b2⟩,⟨b3,b4⟩,⟨b5,b6⟩⟩=0)
  (d0:nC ⟨a1,a2⟩ ⟨b1,b2⟩=(⟨q0,r0⟩,k0)) (g0:got 0 ((0,0),k0)=((s0,t0),G0)) (c0:Ap G0 ⟨q0,r0⟩=((x0,y0),F0))
  (d1:nC ⟨a3,a4⟩ ⟨b3,b4⟩=(⟨q1,r1⟩,k1)) (g1:got F0 ((0,0),k1)=((s1,t1),G1)) (c1:Ap G1 ⟨q1,r1⟩=((x1,y1),F1))
  (d2:nC ⟨a5,a6⟩ ⟨b5,b6⟩=(⟨q2,r2⟩,k2)) (g2:got F1 ((0,0),k2)=((s2,t2),G2)) (c2:Ap G2 ⟨q2,r2⟩=((x2,y2),F2))
  (e3:got F2 (aW.sV (x1,y1) 116 1)=((x3,y3),F3)) (e4:got F3 (aW.uh (x3,y3) (16000000000000,16000000000000))=((x4,y4),F4)) (e5:got F4 (aW.uh (x0,y0) (x1,y1))=((x5,y5),F5))
  (e6:got F5 (aW.sV (x5,y5) 500 1)=((x6,y6),F6)) (e7:got F6 (aW.uh (x1,y1) (x2,y2))=((x7,y7),F7)) (e8:got F7 (aW.sV (x7,y7) 200 1)=((x8,y8),F8))
  (w:World) :
  Calls Tryz.prog 15 #[.agg #[.string a1,.string a2,.string a3,.string a4,.string a5,.string a6],.agg #[.string b1,.string b2,.string b3,.string b4,.string b5,.string b6]] w (fun e w'=>(F8=0→e= .returned (.tuple #[.agg #[.int .i64 x4,.int .i64 y4,.int .i64 x6,.int .i64 y6,.int .i64 x8,.int .i64 y8],.int .i64 0]))∧(F8≠0→e= .returned (.tuple #[.agg #[.int .i64 0,.int .i64 0,.int .i64 0,.int .i64 0,.int .i64 0,.int .i64 0],.int .i64 F8]))∧Below w.heap.size w w'):=by
 have HC:∀ W,Calls Tryz.prog 53 #[.agg #[.string a1,.string a2,.string a3,.string a4,.string a5,.string a6]] W (fun e w'=>e= .returned (.int .i64 0)∧Below W.heap.size W w'):=fun W=>h1 ▸ aK.gD ⟨⟨a1,a2⟩,⟨a3,a4⟩,⟨a5,a6⟩⟩ W ha;have HS:∀ W,Calls Tryz.prog 54 #[.agg #[.string b1,.string b2,.string b3,.string b4,.string b5,.string b6]] W (fun e w'=>e= .returned (.int .i64 0)∧Below W.heap.size W w'):=fun W=>h2 ▸ aK.vw ⟨⟨b1,b2⟩,⟨b3,b4⟩,⟨b5,b6⟩⟩ W hb;have fa0:Fits ⟨a1,a2⟩:=ha 0 zo;have fb0:Fits ⟨b1,b2⟩:=hb 0 zo;have f0:Fits ⟨q0,r0⟩:=by have:=Fp ⟨a1,a2⟩ ⟨b1,b2⟩;rw [d0] at this;exact this
 have D0:∀ W,Calls Tryz.prog 55 #[.agg #[.string a1,.string a2],.agg #[.string b1,.string b2]] W (fun e w'=>e= .returned (.tuple #[.agg #[.string q0,.string r0],.int .i64 k0])∧Below W.heap.size W w'):=fun W=>by
  have:=aC.nJ ⟨a1,a2⟩ ⟨b1,b2⟩ W fa0 fb0;rw [d0] at this;exact this
 have fa1:Fits ⟨a3,a4⟩:=ha 1 zo;have fb1:Fits ⟨b3,b4⟩:=hb 1 zo;have f1:Fits ⟨q1,r1⟩:=by have:=Fp ⟨a3,a4⟩ ⟨b3,b4⟩;rw [d1] at this;exact this
 have D1:∀ W,Calls Tryz.prog 55 #[.agg #[.string a3,.string a4],.agg #[.string b3,.string b4]] W (fun e w'=>e= .returned (.tuple #[.agg #[.string q1,.string r1],.int .i64 k1])∧Below W.heap.size W w'):=fun W=>by
  have:=aC.nJ ⟨a3,a4⟩ ⟨b3,b4⟩ W fa1 fb1;rw [d1] at this;exact this
 have fa2:Fits ⟨a5,a6⟩:=ha 2 zo;have fb2:Fits ⟨b5,b6⟩:=hb 2 zo;have f2:Fits ⟨q2,r2⟩:=by have:=Fp ⟨a5,a6⟩ ⟨b5,b6⟩;rw [d2] at this;exact this
 have D2:∀ W,Calls Tryz.prog 55 #[.agg #[.string a5,.string a6],.agg #[.string b5,.string b6]] W (fun e w'=>e= .returned (.tuple #[.agg #[.string q2,.string r2],.int .i64 k2])∧Below W.heap.size W w'):=fun W=>by
  have:=aC.nJ ⟨a5,a6⟩ ⟨b5,b6⟩ W fa2 fb2;rw [d2] at this;exact this
 refine Fx.door Tryz.func15 rfl (.nil w []) ?_;refine Fx.new [] 2 #[.string a1,.string a2,.string a3,.string a4,.string a5,.string a6] 34 [] [] fun dW=>?_;refine Fx.new [] 3 #[.string b1,.string b2,.string b3,.string b4,.string b5,.string b6] 34 [] [] fun dM=>?_;refine Fx.aL [] 4 42 [] [] fun dP=>?_;refine Fx.aO [3] 15 [] [] HC ?_;refine Fx.aO [2,4] 21 [] [] HS ?_;refine Fx.aL [2] 8 100 [] [] fun xM=>?_;refine Fx.aL [] 9 41 [] [] fun Yc=>?_;refine Fx.draw [1] [0,1,2,3,4,5,6,7,8,9,10,11,5012] [] [(10,.int .i64 0)] [] ?_;refine Fx.aO [3,4] 37 [] [] D0 ?_;refine Fx.sS [] 11 32 [(38,.agg #[.string q0,.string r0]),(39,.int .i64 k0)] [] fun bz6=>?_;refine Fx.iw [8] 42 3 [] [(5,#[.string q0,.string r0])] (fun W M=>wR g0 (M.box (b:=xM) 3)) ?_;refine Fx.iw [8] 45 3 [(43,.int .i64 0)] [] (fun W M=>KF c0 f0 (M.box (b:=xM) 3)) ?_
 refine Fx.draw [7,1] [0,1,2,3,4,5,6,7,8,9,10,11,5012] [] [(10,.int .i64 1)] [(4,#[.int .i64 x0,.int .i64 y0,.int .i64 0,.int .i64 0,.int .i64 0,.int .i64 0])] ?_;refine Fx.aO [3,4] 37 [] [] D1 ?_;refine Fx.sS [] 11 32 [(38,.agg #[.string q1,.string r1]),(39,.int .i64 k1)] [] fun bz7=>?_;refine Fx.iw [9] 42 3 [] [(6,#[.string q1,.string r1])] (fun W M=>wR g1 (M.box (b:=xM) 3)) ?_;refine Fx.iw [9] 45 3 [(43,.int .i64 1)] [] (fun W M=>KF c1 f1 (M.box (b:=xM) 3)) ?_;refine Fx.draw [7,1] [0,1,2,3,4,5,6,7,8,9,10,11,5012] [] [(10,.int .i64 2)] [(4,#[.int .i64 x0,.int .i64 y0,.int .i64 x1,.int .i64 y1,.int .i64 0,.int .i64 0])] ?_;refine Fx.aO [3,4] 37 [] [] D2 ?_;refine Fx.sS [] 11 32 [(38,.agg #[.string q2,.string r2]),(39,.int .i64 k2)] [] fun bz8=>?_;refine Fx.iw [10] 42 3 [] [(7,#[.string q2,.string r2])] (fun W M=>wR g2 (M.box (b:=xM) 3)) ?_
 refine Fx.iw [10] 45 3 [(43,.int .i64 2)] [] (fun W M=>KF c2 f2 (M.box (b:=xM) 3)) ?_;refine Fx.draw [7,2] [0,1,5,6,7,8,11,12,13,14,2,3,4,9,10,15,16,17,18,19] [3] [(10,.int .i64 3)] [(4,#[.int .i64 x0,.int .i64 y0,.int .i64 x1,.int .i64 y1,.int .i64 x2,.int .i64 y2])] ?_;refine Fx.iw [7,7,7,7,7] 49 3 [(53,.agg #[.int .i64 x0,.int .i64 y0]),(55,.agg #[.int .i64 x1,.int .i64 y1]),(59,.agg #[.int .i64 x1,.int .i64 y1]),(61,.agg #[.int .i64 x2,.int .i64 y2])] [] (fun W M=>La e3 (M.box (b:=xM) 3)) ?_;refine Fx.call [] 50 [] [] (fun W M=>ad5 _) ?_;refine Fx.iw [] 51 3 [] [] (fun W M=>UR e4 (M.box (b:=xM) 3)) ?_;refine Fx.iw [] 56 3 [] [] (fun W M=>UR e5 (M.box (b:=xM) 3)) ?_;refine Fx.iw [] 57 3 [] [] (fun W M=>La e6 (M.box (b:=xM) 3)) ?_;refine Fx.iw [] 62 3 [] [] (fun W M=>UR e7 (M.box (b:=xM) 3)) ?_
 refine Fx.iw [] 63 3 [] [] (fun W M=>La e8 (M.box (b:=xM) 3)) ?_;refine Fx.sS [] 13 42 [(64,.agg #[.int .i64 x4,.int .i64 y4,.int .i64 x6,.int .i64 y6,.int .i64 x8,.int .i64 y8])] [] fun bz9=>?_;refine Fx.part 10 [11,6] [(67,.bool (!(F8 == 0)))] [(8,#[.int .i64 x4,.int .i64 y4,.int .i64 x6,.int .i64 y6,.int .i64 x8,.int .i64 y8])] ?_;refine Fx.splitB (fun H1=>?_) (fun H1=>?_)
 ·skip
  refine Fx.draw [1] [0,1,2,3003,5004] [2] [] [] ?_;exact Fx.dw (cs:=#[.int .i64 0,.int .i64 0,.int .i64 0,.int .i64 0,.int .i64 0,.int .i64 0]) (y:=.int .i64 F8) 2 dP [6,5] [(2,#[.int .i64 0,.int .i64 0,.int .i64 0,.int .i64 0,.int .i64 0,.int .i64 0])] (fun W M=>by have HB:=M.below;first|(have h8:F8≠0:=by simpa using H1);exact ⟨fun h=>absurd h h8,fun _=>rfl,HB⟩|(have h8:F8=0:=by simpa using H1);exact ⟨fun _=>rfl,fun h=>absurd h8 h,HB⟩)
 ·skip
  exact Fx.dw (cs:=#[.int .i64 x4,.int .i64 y4,.int .i64 x6,.int .i64 y6,.int .i64 x8,.int .i64 y8]) (y:=.int .i64 0) 2 dP [2,11,5] [(2,#[.int .i64 x4,.int .i64 y4,.int .i64 x6,.int .i64 y6,.int .i64 x8,.int .i64 y8])] (fun W M=>by have HB:=M.below;first|(have h8:F8≠0:=by simpa using H1);exact ⟨fun h=>absurd h h8,fun _=>rfl,HB⟩|(have h8:F8=0:=by simpa using H1);exact ⟨fun _=>rfl,fun h=>absurd h8 h,HB⟩)
theorem kU {α:Type} {z:α} {E F:Int} {r:(Int × Int) × Int} {v:Int × Int} {k:Int × Int→α × Int} {R:α × Int} (e:got E r=(v,F)) (hk:(F=0→R=k v)∧(F≠0→R=(z,F))):(E=0→R=aZ z r k)∧(E≠0→R=(z,E)):=by
 refine ⟨fun h=>?_,fun h=>?_⟩
 ·subst h;obtain ⟨g1,g2,g3⟩:=Uo e;unfold aZ;rw [g1]
  by_cases hF:F=0
  ·rw [if_pos hF,g2 hF];exact hk.1 hF
  ·rw [if_neg hF];exact hk.2 hF
 ·rw [vR h] at e;cases e
  exact hk.2 h
theorem am4 {α:Type} {z x:α} (F:Int):(F=0→(if F=0 then ((x,0):α × Int) else (z,F))=wE x)∧(F≠0→(if F=0 then (x,0) else (z,F))=(z,F)):=⟨fun h=>if_pos h,fun h=>if_neg h⟩
theorem aa0 (r:(Int × Int) × Int):got 0 (aZ (0,0) r wE)=got 0 r:=by
 obtain ⟨v,k⟩:=r;rw [jD,mY (v,k)]
 by_cases h:k=0
 ·rw [if_pos h,if_pos h];rfl
 ·rw [if_neg h,if_neg h]
theorem KE {a b q:Fr} {E k G F:Int} {s v:Int × Int} (d:nC a b=(q,k)) (g:got E ((0,0),k)=(s,G)) (c:Ap G q=(v,F)):got E (dcE a b)=(v,F):=by
 by_cases hE:E=0
 ·subst hE;unfold dcE;rw [jD,d]
  by_cases hk:k=0
  ·subst hk;rw [if_pos rfl];have hG:G=0:=by rw [mY] at g;cases g;rfl
   subst hG;rw [WU] at c;rw [← c];exact aa0 _
  ·rw [if_neg hk];have hG:G=k:=by rw [mY,if_neg hk] at g;cases g;rfl
   subst hG;rw [FH hk] at c;exact c
 ·rw [vR hE] at g;cases g
  rw [FH hE] at c;rw [vR hE];exact c
theorem aR3:aW.ptE (16*1000000000000)=((16000000000000,16000000000000),0):=by decide+kernel
theorem aC0 {α β:Type} {z v:β} {r:α × Int} {f:α→β × Int} {k:Int} (h:aZ z r f=(v,k)):v=z∨∃ x,f x=(v,k):=by
 unfold aZ at h;split at h
 ·exact .inr ⟨_,h⟩
 ·cases h;exact .inl rfl
theorem ao4 {α β:Type} (z:β) (x:α) (f:α→β × Int):aZ z (x,0) f=f x:=rfl
theorem ax4 {t w:light.gK} {v:(Int × Int) × (Int × Int) × (Int × Int)} {k:Int} (h:Ba t w=(v,k)) (hk:k≠0):v=z3:=by
 unfold Ba at h
 iterate 10
  replace h:=aC0 h
  rcases h with h|⟨_,h⟩
  ·exact h
 cases h
 exact absurd rfl hk
theorem yc {t w:light.gK} {v:(Int × Int) × (Int × Int) × (Int × Int)} {k:Int} (h:oI t w=(v,k)) (hk:k≠0):v=z3:=by
 unfold oI at h;split at h
 ·cases h;rfl
 ·split at h
  ·cases h;rfl
  ·exact ax4 h hk
theorem zx {a1 a2 a3 a4 a5 a6 b1 b2 b3 b4 b5 b6:ByteArray} {v:(Int × Int) × (Int × Int) × (Int × Int)} {k:Int} (ha:jS ⟨⟨a1,a2⟩,⟨a3,a4⟩,⟨a5,a6⟩⟩) (hb:jS ⟨⟨b1,b2⟩,⟨b3,b4⟩,⟨b5,b6⟩⟩)
  (h:oI ⟨⟨a1,a2⟩,⟨a3,a4⟩,⟨a5,a6⟩⟩ ⟨⟨b1,b2⟩,⟨b3,b4⟩,⟨b5,b6⟩⟩=(v,k)) (w:World) :
  Calls Tryz.prog 15 #[.agg #[.string a1,.string a2,.string a3,.string a4,.string a5,.string a6],.agg #[.string b1,.string b2,.string b3,.string b4,.string b5,.string b6]] w (fun e w'=>e= .returned (.tuple #[.agg #[.int .i64 v.1.1,.int .i64 v.1.2,.int .i64 v.2.1.1,.int .i64 v.2.1.2,.int .i64 v.2.2.1,.int .i64 v.2.2.2],.int .i64 k])∧Below w.heap.size w w'):=by
 have hz:=yc h;unfold oI at h;split at h
 ·rename_i h0;cases h
  exact Sb ha rfl h0 w
 ·rename_i h0;have h1:light.lW ⟨⟨a1,a2⟩,⟨a3,a4⟩,⟨a5,a6⟩⟩=0:=Decidable.of_not_not h0;split at h
  ·rename_i h0;cases h
   exact RZ ha hb h1 rfl h0 w
  ·rename_i h0;have h2:light.nS ⟨⟨b1,b2⟩,⟨b3,b4⟩,⟨b5,b6⟩⟩=0:=Decidable.of_not_not h0;obtain ⟨⟨⟨q0,r0⟩,k0⟩,d0⟩:∃ z,nC ⟨a1,a2⟩ ⟨b1,b2⟩=z:=⟨_,rfl⟩;obtain ⟨⟨⟨s0,t0⟩,G0⟩,g0⟩:∃ z,got 0 ((0,0),k0)=z:=⟨_,rfl⟩;obtain ⟨⟨⟨x0,y0⟩,F0⟩,c0⟩:∃ z,Ap G0 ⟨q0,r0⟩=z:=⟨_,rfl⟩;obtain ⟨⟨⟨q1,r1⟩,k1⟩,d1⟩:∃ z,nC ⟨a3,a4⟩ ⟨b3,b4⟩=z:=⟨_,rfl⟩;obtain ⟨⟨⟨s1,t1⟩,G1⟩,g1⟩:∃ z,got F0 ((0,0),k1)=z:=⟨_,rfl⟩;obtain ⟨⟨⟨x1,y1⟩,F1⟩,c1⟩:∃ z,Ap G1 ⟨q1,r1⟩=z:=⟨_,rfl⟩;obtain ⟨⟨⟨q2,r2⟩,k2⟩,d2⟩:∃ z,nC ⟨a5,a6⟩ ⟨b5,b6⟩=z:=⟨_,rfl⟩;obtain ⟨⟨⟨s2,t2⟩,G2⟩,g2⟩:∃ z,got F1 ((0,0),k2)=z:=⟨_,rfl⟩;obtain ⟨⟨⟨x2,y2⟩,F2⟩,c2⟩:∃ z,Ap G2 ⟨q2,r2⟩=z:=⟨_,rfl⟩;obtain ⟨⟨⟨x3,y3⟩,F3⟩,e3⟩:∃ z,got F2 (aW.sV (x1,y1) 116 1)=z:=⟨_,rfl⟩;obtain ⟨⟨⟨x4,y4⟩,F4⟩,e4⟩:∃ z,got F3 (aW.uh (x3,y3) (16000000000000,16000000000000))=z:=⟨_,rfl⟩;obtain ⟨⟨⟨x5,y5⟩,F5⟩,e5⟩:∃ z,got F4 (aW.uh (x0,y0) (x1,y1))=z:=⟨_,rfl⟩
   obtain ⟨⟨⟨x6,y6⟩,F6⟩,e6⟩:∃ z,got F5 (aW.sV (x5,y5) 500 1)=z:=⟨_,rfl⟩;obtain ⟨⟨⟨x7,y7⟩,F7⟩,e7⟩:∃ z,got F6 (aW.uh (x1,y1) (x2,y2))=z:=⟨_,rfl⟩;obtain ⟨⟨⟨x8,y8⟩,F8⟩,e8⟩:∃ z,got F7 (aW.sV (x7,y7) 200 1)=z:=⟨_,rfl⟩
   have key:(if F8=0 then ((((x4,y4),(x6,y6),(x8,y8)),0):((Int × Int) × (Int × Int) × (Int × Int)) × Int) else (z3,F8))=Ba ⟨⟨a1,a2⟩,⟨a3,a4⟩,⟨a5,a6⟩⟩ ⟨⟨b1,b2⟩,⟨b3,b4⟩,⟨b5,b6⟩⟩:=by
    unfold Ba;rw [aR3];simp only [ao4];exact (kU (KE d0 g0 c0) (kU (KE d1 g1 c1) (kU (KE d2 g2 c2) (kU e3 (kU e4 (kU e5 (kU e6 (kU e7 (kU e8 (am4 (z:=z3) (x:=((x4,y4),(x6,y6),(x8,y8))) F8)))))))))).1 rfl
   rw [← key] at h
   by_cases hF:F8=0
   ·rw [if_pos hF] at h;cases h
    exact (Gl ha hb h1 h2 d0 g0 c0 d1 g1 c1 d2 g2 c2 e3 e4 e5 e6 e7 e8 w).mono fun _ _ g=>⟨g.1 hF,g.2.2⟩
   ·rw [if_neg hF] at h;cases h
    exact (Gl ha hb h1 h2 d0 g0 c0 d1 g1 c1 d2 g2 c2 e3 e4 e5 e6 e7 e8 w).mono fun _ _ g=>⟨g.2.1 hF,g.2.2⟩
end Go.Proofs.bQ
namespace Go.Proofs.aK
open Go Go.RowKit Go.SW Go.Num Go.Mem Go.Proofs Go.Dec Go.fF
theorem aj2 {q:Rat} (h1:q.num.natAbs≤65535) (h2:q.den≤65535):vL q=true:=by
 have ht:65535<ig 600:=by
  unfold ig;have:=Nat.pow_le_pow_right (n:=10) zo (show 5≤600 by omega);omega
 unfold vL jd;rw [Bool.and_eq_true];exact ⟨decide_eq_true zo,decide_eq_true zo⟩
theorem Ql {n:Int} (h1:0≤n) (h2:n≤65535) (w:World):Calls Tryz.prog 40 #[.int .i64 n,.int .i64 1000] w (fun e w'=>e= .returned (Fr.of (bH.q2 n 1000)).v∧Below w.heap.size w w'):=by
 have h:=nG n 1000 zo zo zo zo w
 have e:(qV n 1000).1=Fr.of (bH.q2 n 1000):=by
  unfold qV wr bH.q2;rw [if_neg zo]
  have hk:vL ((n:Rat) / (1000:Int))=true:=by
   obtain ⟨l1,l2⟩:=aC.xD (n:=n) (d:=1000) zo;exact aj2 zo zo
  rw [if_pos hk]
 rw [e] at h;exact h
theorem ad7 (a b c:Int) (ha:0≤a∧a≤65535) (hb:0≤b∧b≤65535) (hc:0≤c∧c≤65535) (w:World) :
  Calls Tryz.prog 11 #[.agg #[.int .u16 a,.int .u16 b,.int .u16 c]] w (fun e w'=>e= .returned (bH.tq a b c 1000).v∧Below w.heap.size w w'):=by
 have H1:=fun W=>Ql (n:=a) zo zo W;have H2:=fun W=>Ql (n:=b) zo zo W;have H3:=fun W=>Ql (n:=c) zo zo W;obtain ⟨⟨⟨s1,t1⟩,⟨s2,t2⟩,⟨s3,t3⟩⟩,E⟩:∃ y,bH.tq a b c 1000=y:=⟨_,rfl⟩;rw [E];unfold bH.tq at E
 injection E with E1 E2 E3
 rw [E1] at H1;rw [E2] at H2;rw [E3] at H3;refine Fx.door Tryz.func11 rfl (.nil w []) ?_;refine Fx.new [] 1 #[.int .u16 a,.int .u16 b,.int .u16 c] 24 [] [] fun dW=>?_;refine Fx.aL [] 2 34 [] [] fun dM=>?_;refine Fx.draw [] [0,1,2,4,5,6,8,9,10,3,7,11,12,13] [] [] [] ?_;refine Fx.part 3 [3] [(5,.int .i64 (IntKind.i64.wrap a))] [] ?_;refine Fx.zX (.int .i64 (a)) (Fx.wrap_i64 zo zo) ?_;refine Fx.part 3 [3] [(9,.int .i64 (IntKind.i64.wrap b))] [] ?_;refine Fx.zX (.int .i64 (b)) (Fx.wrap_i64 zo zo) ?_;refine Fx.part 3 [3] [(13,.int .i64 (IntKind.i64.wrap c))] [] ?_;refine Fx.zX (.int .i64 (c)) (Fx.wrap_i64 zo zo) ?_;refine Fx.aO [] 6 [] [] H1 ?_;refine Fx.aO [] 10 [] [] H2 ?_;refine Fx.aO [] 14 [] [] H3 ?_;exact Fx.fV 1 dM [4] [(1,#[.string s1,.string t1,.string s2,.string t2,.string s3,.string t3])] (fun W M=>⟨rfl,M.below⟩)
def nE (s:ByteArray):ByteArray:=s.extract 0 (min (s.size:Int) 20).toNat
theorem Fz (s:ByteArray):(nE s).size≤20:=by
 unfold nE;rw [ByteArray.size_extract];omega
theorem aq1 (s t:ByteArray) (w:World) :
  Calls Tryz.prog 41 #[.agg #[.string s,.string t]] w (fun e w'=>e= .returned (.agg #[.string (nE s),.string (nE t)])∧Below w.heap.size w w'):=by
 have qs1:0≤min (s.size:Int) 20:=by omega
 have qs2:min (s.size:Int) 20≤s.size:=by omega
 have qt1:0≤min (t.size:Int) 20:=by omega
 have qt2:min (t.size:Int) 20≤t.size:=by omega
 unfold nE;go_enter Tryz.func41,Tryz.ntmps41
 go_wp2_with fail
 obtain ⟨jN,EW,hz,X1,X2⟩:=Gj w #[.string s,.string t] 26 #[.string ⟨#[]⟩,.string ⟨#[]⟩] 32;rw [EW];have hk2:=Bt (Below.refl _ _) hz;clear EW hz;obtain ⟨jV,jU,lJ⟩:=X1.clf;refine aF [(.pure,0),(.read,1),(.pure,2),(.read,3),(.pure,4),(.pure,5),(.pure,6),(.pure,7),(.read,8),(.pure,9),(.read,10),(.pure,11),(.pure,12),(.pure,13),(.pure,14),(.fin,15)] zk zk zR zP ?_;refine zV ?_;refine aU [_] rfl (fun wf3 hf3=>?_);have hh3:Below jN.heap.size jN wf3:=aD;clear hf3;clear jV jU lJ;replace X1:=X1.bl hh3;replace X2:=X2.bl hh3;have hk4:=Bt hk2 hh3;clear hk2;clear hh3;obtain ⟨tH,tF,xI⟩:=X2.clf;have hres:=X2.out;have xK:=hres.cell;have xH:=hres.free;go_wp2_with fail
 refine dH rfl rfl aJ Tryz.underlying32 rfl zk ?_;exact ⟨rfl,aD⟩
def Xg (k:Int) (f:Fr) (t:light.gK):light.gK:=if k%3=0 then { t with x:=f } else if k%3=1 then { t with y:=f } else { t with z:=f }
theorem Vf (k:Int) (hk:0≤k∧k≤255) (s t:ByteArray) (s1 t1 s2 t2 s3 t3:ByteArray) (w:World) :
  Calls Tryz.prog 13 #[.agg #[.int .u8 k,.string s,.string t],.agg #[.string s1,.string t1,.string s2,.string t2,.string s3,.string t3]] w
   (fun e w'=>e= .returned (Xg k ⟨nE s,nE t⟩ ⟨⟨s1,t1⟩,⟨s2,t2⟩,⟨s3,t3⟩⟩).v∧Below w.heap.size w w'):=by
 have H1:=fun W=>aq1 s t W;generalize nE s=u at H1 ⊢;generalize nE t=v at H1 ⊢;have hm:k.tmod 3=k%3:=Int.tmod_eq_emod_of_nonneg hk.1;have hl:k%3=0∨k%3=1∨k%3=2:=by omega
 unfold Xg
 rcases hl with hl|hl|hl
 ·rw [hl] at hm ⊢;refine Fx.door Tryz.func13 rfl (.nil w []) ?_;refine Fx.new [] 2 #[.int .u8 k,.string s,.string t] 28 [] [] fun dW=>?_;refine Fx.new [] 3 #[.string s1,.string t1,.string s2,.string t2,.string s3,.string t3] 34 [] [] fun dM=>?_;refine Fx.aL [] 4 34 [] [] fun dP=>?_;refine Fx.draw [] (List.range 8) [] [] [] ?_;refine Fx.part 3 [3] [(7,.int .u8 (Int.tmod k 3))] [] ?_;refine Fx.zX (.int .u8 0) (congrArg (Value.int .u8) hm) ?_;refine Fx.aO [3] 10 [] [] H1 ?_;exact Fx.fV 2 dP [4,4,5] [(1,#[.string u,.string v,.string s2,.string t2,.string s3,.string t3]),(2,#[.string u,.string v,.string s2,.string t2,.string s3,.string t3])] (fun W M=>⟨rfl,M.below⟩)
 ·rw [hl] at hm ⊢;refine Fx.door Tryz.func13 rfl (.nil w []) ?_;refine Fx.new [] 2 #[.int .u8 k,.string s,.string t] 28 [] [] fun dW=>?_;refine Fx.new [] 3 #[.string s1,.string t1,.string s2,.string t2,.string s3,.string t3] 34 [] [] fun dM=>?_;refine Fx.aL [] 4 34 [] [] fun dP=>?_;refine Fx.draw [] (List.range 8) [] [] [] ?_;refine Fx.part 3 [3] [(7,.int .u8 (Int.tmod k 3))] [] ?_;refine Fx.zX (.int .u8 1) (congrArg (Value.int .u8) hm) ?_;refine Fx.aO [3] 10 [] [] H1 ?_;exact Fx.fV 2 dP [4,4,5] [(1,#[.string s1,.string t1,.string u,.string v,.string s3,.string t3]),(2,#[.string s1,.string t1,.string u,.string v,.string s3,.string t3])] (fun W M=>⟨rfl,M.below⟩)
 ·rw [hl] at hm ⊢;refine Fx.door Tryz.func13 rfl (.nil w []) ?_;refine Fx.new [] 2 #[.int .u8 k,.string s,.string t] 28 [] [] fun dW=>?_;refine Fx.new [] 3 #[.string s1,.string t1,.string s2,.string t2,.string s3,.string t3] 34 [] [] fun dM=>?_;refine Fx.aL [] 4 34 [] [] fun dP=>?_;refine Fx.draw [] (List.range 8) [] [] [] ?_;refine Fx.part 3 [3] [(7,.int .u8 (Int.tmod k 3))] [] ?_;refine Fx.zX (.int .u8 2) (congrArg (Value.int .u8) hm) ?_;refine Fx.aO [3] 10 [] [] H1 ?_;exact Fx.fV 2 dP [4,4,5] [(1,#[.string s1,.string t1,.string s2,.string t2,.string u,.string v]),(2,#[.string s1,.string t1,.string s2,.string t2,.string u,.string v])] (fun W M=>⟨rfl,M.below⟩)
end Go.Proofs.aK
namespace Go.Proofs.verdigrislaw24
open Go Go.RowKit Go.SW Go.Num Go.Mem Go.Proofs Go.Dec Go.fF Go.Proofs.lab Go.Proofs.bH Go.Proofs.aC Go.Proofs.aK
theorem yT {a b c:Fr} (ha:Fits a) (hb:Fits b) (hc:Fits c):jS ⟨a,b,c⟩:=fun i hi=>by
 rcases i with _| _| _|i
 ·exact ha
 ·exact hb
 ·exact hc
 ·omega
theorem Kw {n d:Int} (h1:n.natAbs≤1000000) (h2:1≤d) (h3:d≤1000000):Fits (Fr.of (q2 n d)):=by
 have e:ig 6=1000000:=by decide
 have hq:Hq 6 (q2 n d):=⟨n,d,by omega,by omega,by omega,rfl⟩;exact NK (hq.ok zo)
theorem Ce {x y z d:Int} (h1:x.natAbs≤1000000) (h2:y.natAbs≤1000000) (h3:z.natAbs≤1000000) (h4:1≤d) (h5:d≤1000000):jS (tq x y z d):=yT (Kw h1 h4 h5) (Kw h2 h4 h5) (Kw h3 h4 h5)
theorem NZ (s t:ByteArray):Fits ⟨nE s,nE t⟩:=by
 have h1:=Fz s;have h2:=Fz t;exact ⟨by show (nE s).size≤_;omega,by show (nE t).size≤_;omega⟩
theorem Jc {k:Int} {f:Fr} {t:light.gK} (hf:Fits f) (ht:jS t):jS (Xg k f t):=by
 have h0:Fits t.x:=ht 0 zo;have h1:Fits t.y:=ht 1 zo;have h2:Fits t.z:=ht 2 zo;unfold Xg;split
 ·exact yT hf h1 h2
 ·split
  ·exact yT h0 hf h2
  ·exact yT h0 h1 hf
theorem Zv (c0 c1 c2 w0 w1 w2 k:Int) (s t:ByteArray) (hc0:0≤c0∧c0≤65535) (hc1:0≤c1∧c1≤65535) (hc2:0≤c2∧c2≤65535) (hw0:0≤w0∧w0≤65535) (hw1:0≤w1∧w1≤65535) (hw2:0≤w2∧w2≤65535) (hk:0≤k∧k≤255) (w:World) (ht:iR.Pow w) (he:whole.Er w) :
  Calls Tryz.prog 3 #[.agg #[.int .u16 c0,.int .u16 c1,.int .u16 c2],.agg #[.int .u16 w0,.int .u16 w1,.int .u16 w2],.agg #[.int .u8 k,.string s,.string t]] w (fun e w'=>e= .returned (.bool true)∧Below w.heap.size w w'):=by
 obtain ⟨⟨⟨x1,x2⟩,⟨x3,x4⟩,⟨x5,x6⟩⟩,ex⟩:∃ y,tq c0 c1 c2 1000=y:=⟨_,rfl⟩
 have Cx:∀ W,Calls Tryz.prog 11 #[.agg #[.int .u16 c0,.int .u16 c1,.int .u16 c2]] W (fun e w'=>e= .returned (.agg #[.string x1,.string x2,.string x3,.string x4,.string x5,.string x6])∧Below W.heap.size W w'):=fun W=>by
  have:=aK.ad7 c0 c1 c2 hc0 hc1 hc2 W;rw [ex] at this;exact this
 have Gx:jS ⟨⟨x1,x2⟩,⟨x3,x4⟩,⟨x5,x6⟩⟩:=by rw [← ex];exact Ce zo zo zo zo zo
 obtain ⟨⟨⟨y1,y2⟩,⟨y3,y4⟩,⟨y5,y6⟩⟩,ey⟩:∃ y,tq (1+w0%2000) (1+w1%2000) (1+w2%2000) 1000=y:=⟨_,rfl⟩
 have Cy:∀ W,Calls Tryz.prog 12 #[.agg #[.int .u16 w0,.int .u16 w1,.int .u16 w2]] W (fun e w'=>e= .returned (.agg #[.string y1,.string y2,.string y3,.string y4,.string y5,.string y6])∧Below W.heap.size W w'):=fun W=>by
  have:=aK.Oz w0 w1 w2 hw0 hw1 hw2 W;rw [ey] at this;exact this
 have Gy:jS ⟨⟨y1,y2⟩,⟨y3,y4⟩,⟨y5,y6⟩⟩:=by rw [← ey];exact Ce zo zo zo zo zo
 obtain ⟨⟨⟨z1,z2⟩,⟨z3,z4⟩,⟨z5,z6⟩⟩,ez⟩:∃ y,tq (1+c0%2000) (1+c1%2000) (1+c2%2000) 1000=y:=⟨_,rfl⟩
 have Cz:∀ W,Calls Tryz.prog 12 #[.agg #[.int .u16 c0,.int .u16 c1,.int .u16 c2]] W (fun e w'=>e= .returned (.agg #[.string z1,.string z2,.string z3,.string z4,.string z5,.string z6])∧Below W.heap.size W w'):=fun W=>by
  have:=aK.Oz c0 c1 c2 hc0 hc1 hc2 W;rw [ez] at this;exact this
 have Gz:jS ⟨⟨z1,z2⟩,⟨z3,z4⟩,⟨z5,z6⟩⟩:=by rw [← ez];exact Ce zo zo zo zo zo
 obtain ⟨⟨⟨u1,u2⟩,⟨u3,u4⟩,⟨u5,u6⟩⟩,eu⟩:∃ y,tq w0 w1 w2 1000=y:=⟨_,rfl⟩
 have Cu:∀ W,Calls Tryz.prog 11 #[.agg #[.int .u16 w0,.int .u16 w1,.int .u16 w2]] W (fun e w'=>e= .returned (.agg #[.string u1,.string u2,.string u3,.string u4,.string u5,.string u6])∧Below W.heap.size W w'):=fun W=>by
  have:=aK.ad7 w0 w1 w2 hw0 hw1 hw2 W;rw [eu] at this;exact this
 have Gu:jS ⟨⟨u1,u2⟩,⟨u3,u4⟩,⟨u5,u6⟩⟩:=by rw [← eu];exact Ce zo zo zo zo zo
 obtain ⟨⟨⟨p1,p2⟩,⟨p3,p4⟩,⟨p5,p6⟩⟩,ep⟩:∃ y,Xg k ⟨nE s,nE t⟩ ⟨⟨x1,x2⟩,⟨x3,x4⟩,⟨x5,x6⟩⟩=y:=⟨_,rfl⟩
 have Cp:∀ W,Calls Tryz.prog 13 #[.agg #[.int .u8 k,.string s,.string t],.agg #[.string x1,.string x2,.string x3,.string x4,.string x5,.string x6]] W (fun e w'=>e= .returned (.agg #[.string p1,.string p2,.string p3,.string p4,.string p5,.string p6])∧Below W.heap.size W w'):=fun W=>by
  have:=aK.Vf k hk s t x1 x2 x3 x4 x5 x6 W;rw [ep] at this;exact this
 have Gp:jS ⟨⟨p1,p2⟩,⟨p3,p4⟩,⟨p5,p6⟩⟩:=by rw [← ep];exact Jc (NZ s t) Gx
 obtain ⟨⟨⟨q1,q2⟩,⟨q3,q4⟩,⟨q5,q6⟩⟩,eq⟩:∃ y,Xg k ⟨nE s,nE t⟩ ⟨⟨y1,y2⟩,⟨y3,y4⟩,⟨y5,y6⟩⟩=y:=⟨_,rfl⟩
 have Cq:∀ W,Calls Tryz.prog 13 #[.agg #[.int .u8 k,.string s,.string t],.agg #[.string y1,.string y2,.string y3,.string y4,.string y5,.string y6]] W (fun e w'=>e= .returned (.agg #[.string q1,.string q2,.string q3,.string q4,.string q5,.string q6])∧Below W.heap.size W w'):=fun W=>by
  have:=aK.Vf k hk s t y1 y2 y3 y4 y5 y6 W;rw [eq] at this;exact this
 have Gq:jS ⟨⟨q1,q2⟩,⟨q3,q4⟩,⟨q5,q6⟩⟩:=by rw [← eq];exact Jc (NZ s t) Gy
 obtain ⟨⟨⟨⟨r01,r02⟩,⟨r03,r04⟩,⟨r05,r06⟩⟩,K0⟩,h0⟩:∃ v,oI ⟨⟨x1,x2⟩,⟨x3,x4⟩,⟨x5,x6⟩⟩ ⟨⟨y1,y2⟩,⟨y3,y4⟩,⟨y5,y6⟩⟩=v:=⟨_,rfl⟩;obtain ⟨⟨⟨⟨r11,r12⟩,⟨r13,r14⟩,⟨r15,r16⟩⟩,K1⟩,h1⟩:∃ v,oI ⟨⟨p1,p2⟩,⟨p3,p4⟩,⟨p5,p6⟩⟩ ⟨⟨y1,y2⟩,⟨y3,y4⟩,⟨y5,y6⟩⟩=v:=⟨_,rfl⟩;obtain ⟨⟨⟨⟨r21,r22⟩,⟨r23,r24⟩,⟨r25,r26⟩⟩,K2⟩,h2⟩:∃ v,oI ⟨⟨x1,x2⟩,⟨x3,x4⟩,⟨x5,x6⟩⟩ ⟨⟨q1,q2⟩,⟨q3,q4⟩,⟨q5,q6⟩⟩=v:=⟨_,rfl⟩;obtain ⟨⟨⟨⟨r31,r32⟩,⟨r33,r34⟩,⟨r35,r36⟩⟩,K3⟩,h3⟩:∃ v,oI ⟨⟨z1,z2⟩,⟨z3,z4⟩,⟨z5,z6⟩⟩ ⟨⟨u1,u2⟩,⟨u3,u4⟩,⟨u5,u6⟩⟩=v:=⟨_,rfl⟩;refine Fx.door Tryz.func3 rfl (.nil w []) ?_;refine Fx.new [] 3 #[.int .u16 c0,.int .u16 c1,.int .u16 c2] 24 [] [] fun dW=>?_;refine Fx.new [] 4 #[.int .u16 w0,.int .u16 w1,.int .u16 w2] 24 [] [] fun dM=>?_;refine Fx.new [] 5 #[.int .u8 k,.string s,.string t] 28 [] [] fun dP=>?_;refine Fx.call [] 13 [] [] (fun W M=>Yg _ (ht.later M.below) (he.later M.below)) ?_
 refine Fx.draw [2] [0,2,5,6,9,12,14,15,19,21,25,1,3,4,7,8,10,11,13,16,17,18,20,22,23,24] [] [] [] ?_;refine Fx.aO [3,4,5,3,4,3,5,4,3,4] 16 [(17,.agg #[.int .u16 w0,.int .u16 w1,.int .u16 w2]),(20,.agg #[.int .u8 k,.string s,.string t]),(21,.agg #[.int .u16 c0,.int .u16 c1,.int .u16 c2]),(24,.agg #[.int .u16 w0,.int .u16 w1,.int .u16 w2]),(27,.agg #[.int .u16 c0,.int .u16 c1,.int .u16 c2]),(29,.agg #[.int .u8 k,.string s,.string t]),(30,.agg #[.int .u16 w0,.int .u16 w1,.int .u16 w2]),(34,.agg #[.int .u16 c0,.int .u16 c1,.int .u16 c2]),(36,.agg #[.int .u16 w0,.int .u16 w1,.int .u16 w2]),(40,.int .i64 0)] [] Cx ?_;refine Fx.aO [] 18 [] [] Cy ?_;refine Fx.aO [] 22 [(19,.agg #[.string x1,.string x2,.string x3,.string x4,.string x5,.string x6,.string y1,.string y2,.string y3,.string y4,.string y5,.string y6])] [] Cx ?_;refine Fx.aO [] 23 [] [] Cp ?_
 refine Fx.aO [] 25 [] [] Cy ?_;refine Fx.aO [] 28 [(26,.agg #[.string p1,.string p2,.string p3,.string p4,.string p5,.string p6,.string y1,.string y2,.string y3,.string y4,.string y5,.string y6])] [] Cx ?_;refine Fx.aO [] 31 [] [] Cy ?_;refine Fx.aO [] 32 [] [] Cq ?_;refine Fx.aO [] 35 [(33,.agg #[.string x1,.string x2,.string x3,.string x4,.string x5,.string x6,.string q1,.string q2,.string q3,.string q4,.string q5,.string q6])] [] Cz ?_;refine Fx.aO [] 37 [] [] Cu ?_
 refine Fx.aL [1] 8 36 [(39,.agg #[.string x1,.string x2,.string x3,.string x4,.string x5,.string x6,.string y1,.string y2,.string y3,.string y4,.string y5,.string y6,.string p1,.string p2,.string p3,.string p4,.string p5,.string p6,.string y1,.string y2,.string y3,.string y4,.string y5,.string y6,.string x1,.string x2,.string x3,.string x4,.string x5,.string x6,.string q1,.string q2,.string q3,.string q4,.string q5,.string q6,.string z1,.string z2,.string z3,.string z4,.string z5,.string z6,.string u1,.string u2,.string u3,.string u4,.string u5,.string u6]),(42,.agg #[.string x1,.string x2,.string x3,.string x4,.string x5,.string x6,.string y1,.string y2,.string y3,.string y4,.string y5,.string y6])] [] fun xM=>?_
 refine Fx.call [6,6,6] 48 [] [(3,#[.string x1,.string x2,.string x3,.string x4,.string x5,.string x6,.string y1,.string y2,.string y3,.string y4,.string y5,.string y6])] (fun W M=>qP h0 _ (ht.later M.below) (he.later M.below) (bQ.yc h0)) ?_;refine Fx.aL [] 9 42 [(49,.agg #[.int .i64 r01,.int .i64 r02,.int .i64 r03,.int .i64 r04,.int .i64 r05,.int .i64 r06]),(50,.int .i64 K0)] [] fun Yc=>?_;refine Fx.call [7,6,6] 56 [(10,.int .i64 K0)] [(4,#[.int .i64 r01,.int .i64 r02,.int .i64 r03,.int .i64 r04,.int .i64 r05,.int .i64 r06])] (fun W M=>bQ.zx Gx Gy h0 _) ?_;refine Fx.aL [] 11 42 [(57,.agg #[.int .i64 r01,.int .i64 r02,.int .i64 r03,.int .i64 r04,.int .i64 r05,.int .i64 r06]),(58,.int .i64 K0)] [] fun bz6=>?_
 refine Fx.eql 8 [8,7,8] 61 false true 42 (.agg #[.int .i64 r01,.int .i64 r02,.int .i64 r03,.int .i64 r04,.int .i64 r05,.int .i64 r06]) (.agg #[.int .i64 r01,.int .i64 r02,.int .i64 r03,.int .i64 r04,.int .i64 r05,.int .i64 r06]) [(12,.int .i64 K0)] [(5,#[.int .i64 r01,.int .i64 r02,.int .i64 r03,.int .i64 r04,.int .i64 r05,.int .i64 r06])] (fun _=>rQ _ _ _ _ _ _ _) ?_;refine Fx.part 4 [] [(65,.bool (!(K0 == K0))),(62,.bool false)] [] ?_;refine Fx.jo false zi ?_;refine Fx.aL [2,1] 8 36 [(40,.int .i64 1),(42,.agg #[.string p1,.string p2,.string p3,.string p4,.string p5,.string p6,.string y1,.string y2,.string y3,.string y4,.string y5,.string y6])] [] fun bz7=>?_
 refine Fx.call [9,9,9] 48 [] [(6,#[.string p1,.string p2,.string p3,.string p4,.string p5,.string p6,.string y1,.string y2,.string y3,.string y4,.string y5,.string y6])] (fun W M=>qP h1 _ (ht.later M.below) (he.later M.below) (bQ.yc h1)) ?_;refine Fx.aL [] 9 42 [(49,.agg #[.int .i64 r11,.int .i64 r12,.int .i64 r13,.int .i64 r14,.int .i64 r15,.int .i64 r16]),(50,.int .i64 K1)] [] fun bz8=>?_;refine Fx.call [10,9,9] 56 [(10,.int .i64 K1)] [(7,#[.int .i64 r11,.int .i64 r12,.int .i64 r13,.int .i64 r14,.int .i64 r15,.int .i64 r16])] (fun W M=>bQ.zx Gp Gy h1 _) ?_;refine Fx.aL [] 11 42 [(57,.agg #[.int .i64 r11,.int .i64 r12,.int .i64 r13,.int .i64 r14,.int .i64 r15,.int .i64 r16]),(58,.int .i64 K1)] [] fun bz9=>?_
 refine Fx.eql 8 [11,10,11] 61 false true 42 (.agg #[.int .i64 r11,.int .i64 r12,.int .i64 r13,.int .i64 r14,.int .i64 r15,.int .i64 r16]) (.agg #[.int .i64 r11,.int .i64 r12,.int .i64 r13,.int .i64 r14,.int .i64 r15,.int .i64 r16]) [(12,.int .i64 K1)] [(8,#[.int .i64 r11,.int .i64 r12,.int .i64 r13,.int .i64 r14,.int .i64 r15,.int .i64 r16])] (fun _=>rQ _ _ _ _ _ _ _) ?_;refine Fx.part 4 [] [(65,.bool (!(K1 == K1))),(62,.bool false)] [] ?_;refine Fx.jo false zi ?_;refine Fx.aL [2,1] 8 36 [(40,.int .i64 2),(42,.agg #[.string x1,.string x2,.string x3,.string x4,.string x5,.string x6,.string q1,.string q2,.string q3,.string q4,.string q5,.string q6])] [] fun ao3=>?_
 refine Fx.call [12,12,12] 48 [] [(9,#[.string x1,.string x2,.string x3,.string x4,.string x5,.string x6,.string q1,.string q2,.string q3,.string q4,.string q5,.string q6])] (fun W M=>qP h2 _ (ht.later M.below) (he.later M.below) (bQ.yc h2)) ?_;refine Fx.aL [] 9 42 [(49,.agg #[.int .i64 r21,.int .i64 r22,.int .i64 r23,.int .i64 r24,.int .i64 r25,.int .i64 r26]),(50,.int .i64 K2)] [] fun aO2=>?_;refine Fx.call [13,12,12] 56 [(10,.int .i64 K2)] [(10,#[.int .i64 r21,.int .i64 r22,.int .i64 r23,.int .i64 r24,.int .i64 r25,.int .i64 r26])] (fun W M=>bQ.zx Gx Gq h2 _) ?_;refine Fx.aL [] 11 42 [(57,.agg #[.int .i64 r21,.int .i64 r22,.int .i64 r23,.int .i64 r24,.int .i64 r25,.int .i64 r26]),(58,.int .i64 K2)] [] fun ao2=>?_
 refine Fx.eql 8 [14,13,14] 61 false true 42 (.agg #[.int .i64 r21,.int .i64 r22,.int .i64 r23,.int .i64 r24,.int .i64 r25,.int .i64 r26]) (.agg #[.int .i64 r21,.int .i64 r22,.int .i64 r23,.int .i64 r24,.int .i64 r25,.int .i64 r26]) [(12,.int .i64 K2)] [(11,#[.int .i64 r21,.int .i64 r22,.int .i64 r23,.int .i64 r24,.int .i64 r25,.int .i64 r26])] (fun _=>rQ _ _ _ _ _ _ _) ?_;refine Fx.part 4 [] [(65,.bool (!(K2 == K2))),(62,.bool false)] [] ?_;refine Fx.jo false zi ?_;refine Fx.aL [2,1] 8 36 [(40,.int .i64 3),(42,.agg #[.string z1,.string z2,.string z3,.string z4,.string z5,.string z6,.string u1,.string u2,.string u3,.string u4,.string u5,.string u6])] [] fun aX6=>?_
 refine Fx.call [15,15,15] 48 [] [(12,#[.string z1,.string z2,.string z3,.string z4,.string z5,.string z6,.string u1,.string u2,.string u3,.string u4,.string u5,.string u6])] (fun W M=>qP h3 _ (ht.later M.below) (he.later M.below) (bQ.yc h3)) ?_;refine Fx.aL [] 9 42 [(49,.agg #[.int .i64 r31,.int .i64 r32,.int .i64 r33,.int .i64 r34,.int .i64 r35,.int .i64 r36]),(50,.int .i64 K3)] [] fun aX5=>?_;refine Fx.call [16,15,15] 56 [(10,.int .i64 K3)] [(13,#[.int .i64 r31,.int .i64 r32,.int .i64 r33,.int .i64 r34,.int .i64 r35,.int .i64 r36])] (fun W M=>bQ.zx Gz Gu h3 _) ?_;refine Fx.aL [] 11 42 [(57,.agg #[.int .i64 r31,.int .i64 r32,.int .i64 r33,.int .i64 r34,.int .i64 r35,.int .i64 r36]),(58,.int .i64 K3)] [] fun Xe=>?_
 refine Fx.eql 8 [17,16,17] 61 false true 42 (.agg #[.int .i64 r31,.int .i64 r32,.int .i64 r33,.int .i64 r34,.int .i64 r35,.int .i64 r36]) (.agg #[.int .i64 r31,.int .i64 r32,.int .i64 r33,.int .i64 r34,.int .i64 r35,.int .i64 r36]) [(12,.int .i64 K3)] [(14,#[.int .i64 r31,.int .i64 r32,.int .i64 r33,.int .i64 r34,.int .i64 r35,.int .i64 r36])] (fun _=>rQ _ _ _ _ _ _ _) ?_;refine Fx.part 4 [] [(65,.bool (!(K3 == K3))),(62,.bool false)] [] ?_;refine Fx.jo false zi ?_;exact Fx.wF [2,2] [] (fun W M=>⟨rfl,M.below⟩)
end Go.Proofs.verdigrislaw24
