/- Lemmas for the proof. No condition. -/
import Derived.Test.YtneajphgfdlmhaaGreatDoorQB19
import Derived.Test.YtneajphgfdlmhaaGreatDoorQB25
set_option linter.unusedVariables false
set_option linter.unusedSimpArgs false
set_option maxRecDepth 100000
set_option maxHeartbeats 16000000
open Bool renaming and_eq_true → aK
open Go.Ending renaming returned → aj
open Go.IntKind renaming i64 → I
open Go.Value renaming agg → au, bool → ak, int → Z, pointer → aB, slice → ah, string → O, tuple → aG
open List renaming all_cons → gW, cons_append → dh, getD_eq_getElem?_getD → bY, getElem_mem → dY, mem_cons → dR, mem_of_mem_take → jk, take_of_length_le → dG, take_succ_eq_append_getElem → fq
open Nat renaming add_sub_cancel → dS, add_zero → fJ, le_of_lt → bJ, le_refl → aD, lt_of_lt_of_le → aI, lt_or_ge → aO
namespace Go.Proofs.ko
open Go Go.RowKit Go.SW Go.Num Go.Mem Go.Proofs Go.Dec Go.gD Go.Proofs.aH
theorem Pl.kept {l:List TypeId} {w w':World} {v:Value} {z:Int} (h:Pl w v z) (k:Keep l w w') (hT:3∉l):Pl w' v z:=by
 obtain ⟨pa,n,c,h1,h2⟩:=h;exact ⟨pa,n,c,h1,Row.kept h2 k hT⟩
theorem Ra.kept {l:List TypeId} {w w':World} {v:Value} {q:Rat} (h:Ra w v q) (k:Keep l w w') (hT:3∉l):Ra w' v q:=by
 obtain ⟨bn,pn,ln,cn,bd,pd,ld,cd,e,h1,h2⟩:=h;exact ⟨bn,pn,ln,cn,bd,pd,ld,cd,e,Pl.kept h1 k hT,Pl.kept h2 k hT⟩
def Vo:Rl Rat:=fun w q c=>∃ bn pn ln cn bd pd ld cd,c=[ak bn,ah pn ln cn,ak bd,ah pd ld cd]∧Ra w (au #[ak bn,ah pn ln cn,ak bd,ah pd ld cd]) q
theorem Vo.stay {m:List TypeId} (h:3∉m):AQ m Vo:=fun w w' a c k hr=>by
 obtain ⟨bn,pn,ln,cn,bd,pd,ld,cd,e,h1⟩:=hr;exact ⟨bn,pn,ln,cn,bd,pd,ld,cd,e,Ra.kept h1 k h⟩
def Ic (w:World) (v:Value) (qs:List Rat):Prop:=Pt w 163 4 Vo v qs
theorem Ic.later {w w':World} {v:Value} {qs:List Rat} (h:Ic w v qs) (hb:Below w.heap.size w w'):Ic w' v qs:=Pt.later h hb (Vo.stay zi)
theorem aa2:(Tryz.prog.info? 163).map (fun i=>(i.zero,i.size,i.bytes))=some (some (.agg #[ak false,ah none 0 0,ak false,ah none 0 0]),4,64):=by kernel_rfl
theorem Ic.at {w:World} {v:Value} {qs:List Rat} (h:Ic w v qs):∃ a cap,v= ah a qs.length cap∧qs.length≤cap∧cap≤9223372036854775807 ∧
  ∀ k (_:k<qs.length),∃ b off bn pn ln cn bd pd ld cd,a=some ⟨b,off,none⟩∧b<w.heap.size∧w.cell? ⟨b,off+k*4,none⟩=some (.bool bn)∧w.cell? ⟨b,off+k*4+1,none⟩=some (.slice pn ln cn)∧w.cell? ⟨b,off+k*4+2,none⟩=some (.bool bd)∧w.cell? ⟨b,off+k*4+3,none⟩=some (.slice pd ld cd) ∧
   Ra w (au #[ak bn,ah pn ln cn,ak bd,ah pd ld cd]) qs[k]:=by
 obtain ⟨a,cap,h1,h2,h3,h4⟩:=Pt.read h;refine ⟨a,cap,h1,h2,h3,fun k hk=>?_⟩;obtain ⟨b,off,c,k1,k2,⟨bn,pn,ln,cn,bd,pd,ld,cd,rfl,k3⟩, -, k5⟩:=h4 k hk;exact ⟨b,off,bn,pn,ln,cn,bd,pd,ld,cd,k1,k2,k5 0 zo,k5 1 zo,k5 2 zo,k5 3 zo,k3⟩
end Go.Proofs.ko
namespace Go.Proofs.aU
open Go Go.RowKit Go.SW Go.Num Go.Mem Go.Proofs Go.Dec Go.gD Go.Proofs.dH Go.Proofs.aH Go.Proofs.aC Go.Proofs.ko
theorem QF (p x:Rat):∀ l:List Rat,j6 p (l++[x])=if x<j6 p l then x else j6 p l:=by
 intro l
 induction l generalizing p with
 | nil=>rfl
 | cons y l ih=>simp only [dh,j6];exact ih _
theorem Mw (p x:Rat):∀ l:List Rat,iE p (l++[x])=if iE p l<x then x else iE p l:=by
 intro l
 induction l generalizing p with
 | nil=>rfl
 | cons y l ih=>simp only [dh,iE];exact ih _
theorem TT (p:Rat):∀ l:List Rat,j6 p l∈p::l:=by
 intro l
 induction l generalizing p with
 | nil=>simp [j6]
 | cons y l ih =>
  unfold j6;have:=ih (if y<p then y else p);split at this<;>split<;>simp_all<;>grind
theorem QL (p:Rat):∀ l:List Rat,iE p l∈p::l:=by
 intro l
 induction l generalizing p with
 | nil=>simp [iE]
 | cons y l ih =>
  unfold iE;have:=ih (if p<y then y else p);split at this<;>split<;>simp_all<;>grind
theorem Zk {P:Program} {c:Code} {Q:Exit→Act→World→Prop} {a:Act} {w:World} (F:Act→Nat→Nat→Act) (R:Nat→Nat→World→Prop) (h:c.wp P (fun e a' w'=>e= .normal∧∃ x y,a'=F a x y∧R x y w') a w) (k:∀ x y w',R x y w'→Q .normal (F a x y) w'):c.wp P Q a w :=
 Code.wp_mono (fun e a' w' ⟨h1,x,y,h2,h3⟩=>by
  subst h1 h2;exact k _ _ _ h3) h
def Hold (w wr:World) (b:Nat) (q:Rat):Prop:=∃ bn pn ln cn bd pd ld cd,aA wr b #[ak bn,ah pn ln cn,ak bd,ah pd ld cd] 163∧Ra w (au #[ak bn,ah pn ln cn,ak bd,ah pd ld cd]) q
theorem MS (v:Value) (p:Rat) (l:List Rat) (n1:Nat) (w:World) (h:Ic w v (p::l)) (hn:l.length+1=n1) (hn2:n1≤1000) (hs:∀ q∈p::l,jw 30 q) :
  Calls Tryz.prog 217 #[v] w (fun e w'=>e= aj (d9 (nG (j6 p l) (iE p l)))∧Below w.heap.size w w'):=by
 obtain ⟨a,cap,rfl, -, hc1,hread⟩:=Ic.at h
 have H:Hid (∀ k,k<n1→∃ b off bn pn ln cn bd pd ld cd,a=some ⟨b,off,none⟩∧b<w.heap.size∧w.cell? ⟨b,off+k*4,none⟩=some (.bool bn)∧w.cell? ⟨b,off+k*4+1,none⟩=some (.slice pn ln cn)∧w.cell? ⟨b,off+k*4+2,none⟩=some (.bool bd)∧w.cell? ⟨b,off+k*4+3,none⟩=some (.slice pd ld cd) ∧
   Ra w (au #[ak bn,ah pn ln cn,ak bd,ah pd ld cd]) ((p::l).getD k 0)):=zh fun k hk=>by
  have hk2:k<(p::l).length:=by simp;omega
  have:=hread k hk2;rw [show (p::l)[k]=(p::l).getD k 0 by rw [bY,List.getElem?_eq_getElem hk2];rfl] at this;exact this
 have SZ:Hid (∀ k,k<n1→jw 30 ((p::l).getD k 0)):=zh fun k hk=>by
  have hk2:k<(p::l).length:=by simp;omega
  rw [show (p::l).getD k 0=(p::l)[k] by rw [bY,List.getElem?_eq_getElem hk2];rfl];exact hs _ (dY hk2)
 have SL:Hid (∀ k,jw 30 (j6 p (l.take k))):=zh fun k=>hs _ (by
  have:=TT p (l.take k);simp only [dR] at this ⊢;exact this.imp id (fun h=>jk h))
 have SH:Hid (∀ k,jw 30 (iE p (l.take k))):=zh fun k=>hs _ (by
  have:=QL p (l.take k);simp only [dR] at this ⊢;exact this.imp id (fun h=>jk h))
 have LS:Hid (∀ k,k+1<n1→j6 p (l.take (k+1))=if (p::l).getD (k+1) 0<j6 p (l.take k) then (p::l).getD (k+1) 0 else j6 p (l.take k)):=zh fun k hk=>by
  have hk2:k<l.length:=by omega
  rw [fq hk2,QF];simp [hk2]
 have HS:Hid (∀ k,k+1<n1→iE p (l.take (k+1))=if iE p (l.take k)<(p::l).getD (k+1) 0 then (p::l).getD (k+1) 0 else iE p (l.take k)):=zh fun k hk=>by
  have hk2:k<l.length:=by omega
  rw [fq hk2,Mw];simp [hk2]
 have HE:Hid (l.take (n1 - 1)=l):=zh (dG zo);have h0:0<n1:=by omega
 have e0:(p::l).length=n1:=by simp [hn]
 rw [e0];have TG:=zh (fun v v' W (h:Ra W v (j6 p l)) (h':Ra W v' (iE p l))=>Kw v v' _ _ W h h' (by have:=SL.out (n1 - 1);rw [HE.out] at this;exact this.mono zo) (by have:=SH.out (n1 - 1);rw [HE.out] at this;exact this.mono zo));obtain ⟨e1,e2,ek,ex⟩:=zA (nG (j6 p l) (iE p l));rw [ex] at TG ⊢;unfold d9 at TG ⊢;have G0:Hid ((p::l).getD 0 0=p):=zh rfl;obtain ⟨g,Eg⟩:∃ g:Nat→Rat,g=fun k=>(p::l).getD k 0:=⟨_,rfl⟩;have eg:∀ k,(p::l).getD k 0=g k:=fun k=>by rw [Eg]
 simp only [eg] at H SZ LS HS G0;obtain ⟨b,off,bn,pn,ln,cn,bd,pd,ld,cd,rfl,hbl,k1,k2,k3,k4,hra⟩:=H.out 0 h0;rw [Nat.zero_mul,fJ] at k1 k2 k3 k4;rw [G0.out] at hra;have R0:=zh hra;clear hread hs h ex e0 hn eg Eg G0 hra;go_enter Tryz.func217,Tryz.ntmps217
 go_wp2_with fail
 obtain ⟨u0,EW,hz,HR⟩:=wR w #[Z I 0,Z I 0] 40;rw [EW];have hlr:=HR.out.lt;have d1:=(hz.cell (p:=⟨b,off,none⟩) hbl).trans k1;have d2:=(hz.cell (p:=⟨b,off+1,none⟩) hbl).trans k2;have d3:=(hz.cell (p:=⟨b,off+2,none⟩) hbl).trans k3;have d4:=(hz.cell (p:=⟨b,off+3,none⟩) hbl).trans k4;have l1:b<u0.heap.size:=aI hbl hz.size;clear EW k1 k2 k3 k4
 refine Zk (fun a q r=>(((((((a.put (some 7) (ah (some ⟨b,off,none⟩) n1 cap)).put (some 8) (aB (some ⟨b,off,none⟩))).put (some 9) (au #[ak bn,ah pn ln cn,ak bd,ah pd ld cd])).put (some 10) (ah (some ⟨b,off,none⟩) n1 cap)).put (some 11) (aB (some ⟨b,off,none⟩))).put (some 12) (au #[ak bn,ah pn ln cn,ak bd,ah pd ld cd])).put (some 4) (aB (some ⟨q,0,none⟩))).put (some 5) (aB (some ⟨r,0,none⟩))) (fun q r W=>w.heap.size<q∧w.heap.size<r∧q≠r∧aA W q #[ak bn,ah pn ln cn,ak bd,ah pd ld cd] 163∧aA W r #[ak bn,ah pn ln cn,ak bd,ah pd ld cd] 163∧aA W w.heap.size #[Z I 0,Z I 0] 40∧Below w.heap.size w W) ?rg ?tl
 case rg =>
  refine ZA zk (Wz 5 8 zd (Ja [(.pure,0),(.pure,1),(.read,2),(.pure,3),(.pure,4),(.read,5),(.alloc #[ak false,ah none 0 0,ak false,ah none 0 0] 163,6),(.alloc #[ak false,ah none 0 0,ak false,ah none 0 0] 163,7),(.fin,8),(.fin,9)] zk zR (fun _ _ _ _ _ h=>by cases h.1) (yP _ _ _ _ _ _ _ (Wk.out ?o1))) (Ja [(.pure,0),(.pure,1),(.read,2),(.pure,3),(.pure,4),(.alloc #[ak false,ah none 0 0,ak false,ah none 0 0] 163,6),(.alloc #[ak false,ah none 0 0,ak false,ah none 0 0] 163,7),(.fin,8),(.fin,5),(.fin,9)] zk zR (fun _ _ _ _ _ h=>by cases h.1) (yP _ _ _ _ _ _ _ (Wk.out ?o2))))
  case o1 =>
   refine zS ?_;refine wZ rfl (fun q wg hbg hq1 hq2 hq3 KT=>?_);go_simp;replace KT:aA wg q #[ak false,ah none 0 0,ak false,ah none 0 0] 163:=KT;refine wZ rfl (fun r wk hbk hr1 hr2 hr3 Xj=>?_);go_simp;replace Xj:aA wk r #[ak false,ah none 0 0,ak false,ah none 0 0] 163:=Xj;refine rE [_,_] rfl (fun wh KV=>?_);have hne:q≠r:=by simp at hr3;omega
   have hne2:r≠q:=fun e=>hne e.symm;have hd:Below u0.heap.size u0 wh:=Bt (Bt (Bt aF hbg) hbk) KV;have hL:=(KT.later hbk).later KV;have hH:=Xj.later KV;have KU:w.heap.size<q:=by omega
   have hgr:w.heap.size<r:=by omega
   have nq:w.heap.size≠q:=by omega
   have nr:w.heap.size≠r:=by omega
   have bq:b≠q:=by omega
   have bq2:q≠b:=by omega
   have cL:=hL.cell;have fL:=hL.free;have cH:=hH.cell;have fH:=hH.free;have d5:=(hd.cell (p:=⟨b,off,none⟩) l1).trans d1;have d6:=(hd.cell (p:=⟨b,off+1,none⟩) l1).trans d2;have d7:=(hd.cell (p:=⟨b,off+2,none⟩) l1).trans d3;have d8:=(hd.cell (p:=⟨b,off+3,none⟩) l1).trans d4;have l2:b<wh.heap.size:=aI l1 hd.size;clear d1 d2 d3 d4 KT Xj hbg hbk KV;go_wp2_with fail
   refine ⟨q,r,?_,KU,hgr,hne,
    (((((((((hL.set 0 (ak bn)).set 1 (ah pn ln cn)).set 2 (ak bd)).set 3 (ah pd ld cd)).setOther (a:=⟨r,0,none⟩) (ak bn) hne).setOther (a:=⟨r,1,none⟩) (ah pn ln cn) hne).setOther (a:=⟨r,2,none⟩) (ak bd) hne).setOther (a:=⟨r,3,none⟩) (ah pd ld cd) hne)),
    (((((((((hH.setOther (a:=⟨q,0,none⟩) (ak bn) hne2).setOther (a:=⟨q,1,none⟩) (ah pn ln cn) hne2).setOther (a:=⟨q,2,none⟩) (ak bd) hne2).setOther (a:=⟨q,3,none⟩) (ah pd ld cd) hne2).set 0 (ak bn)).set 1 (ah pn ln cn)).set 2 (ak bd)).set 3 (ah pd ld cd))),
    ((((((((HR.out.later hd).setOther (a:=⟨q,0,none⟩) (ak bn) nq).setOther (a:=⟨q,1,none⟩) (ah pn ln cn) nq).setOther (a:=⟨q,2,none⟩) (ak bd) nq).setOther (a:=⟨q,3,none⟩) (ah pd ld cd) nq).setOther (a:=⟨r,0,none⟩) (ak bn) nr).setOther (a:=⟨r,1,none⟩) (ah pn ln cn) nr).setOther (a:=⟨r,2,none⟩) (ak bd) nr).setOther (a:=⟨r,3,none⟩) (ah pd ld cd) nr,
    ((((((((Bt hz hd).setCell (p:=⟨q,0,none⟩) (bJ KU) (ak bn)).setCell (p:=⟨q,1,none⟩) (bJ KU) (ah pn ln cn)).setCell (p:=⟨q,2,none⟩) (bJ KU) (ak bd)).setCell (p:=⟨q,3,none⟩) (bJ KU) (ah pd ld cd)).setCell (p:=⟨r,0,none⟩) (bJ hgr) (ak bn)).setCell (p:=⟨r,1,none⟩) (bJ hgr) (ah pn ln cn)).setCell (p:=⟨r,2,none⟩) (bJ hgr) (ak bd)).setCell (p:=⟨r,3,none⟩) (bJ hgr) (ah pd ld cd)⟩
   exact ⟨rfl,rfl⟩
  case o2 =>
   refine zS ?_;refine wZ rfl (fun q wg hbg hq1 hq2 hq3 KT=>?_);go_simp;replace KT:aA wg q #[ak false,ah none 0 0,ak false,ah none 0 0] 163:=KT;refine wZ rfl (fun r wk hbk hr1 hr2 hr3 Xj=>?_);go_simp;replace Xj:aA wk r #[ak false,ah none 0 0,ak false,ah none 0 0] 163:=Xj;refine rE [_,_,_] rfl (fun wh KV=>?_);have hne:q≠r:=by simp at hr3;omega
   have hne2:r≠q:=fun e=>hne e.symm;have hd:Below u0.heap.size u0 wh:=Bt (Bt (Bt aF hbg) hbk) KV;have hL:=(KT.later hbk).later KV;have hH:=Xj.later KV;have KU:w.heap.size<q:=by omega
   have hgr:w.heap.size<r:=by omega
   have nq:w.heap.size≠q:=by omega
   have nr:w.heap.size≠r:=by omega
   have bq:b≠q:=by omega
   have bq2:q≠b:=by omega
   have cL:=hL.cell;have fL:=hL.free;have cH:=hH.cell;have fH:=hH.free;have d5:=(hd.cell (p:=⟨b,off,none⟩) l1).trans d1;have d6:=(hd.cell (p:=⟨b,off+1,none⟩) l1).trans d2;have d7:=(hd.cell (p:=⟨b,off+2,none⟩) l1).trans d3;have d8:=(hd.cell (p:=⟨b,off+3,none⟩) l1).trans d4;have l2:b<wh.heap.size:=aI l1 hd.size;clear d1 d2 d3 d4 KT Xj hbg hbk KV;go_wp2_with fail
   refine ⟨q,r,?_,KU,hgr,hne,
    (((((((((hL.set 0 (ak bn)).set 1 (ah pn ln cn)).set 2 (ak bd)).set 3 (ah pd ld cd)).setOther (a:=⟨r,0,none⟩) (ak bn) hne).setOther (a:=⟨r,1,none⟩) (ah pn ln cn) hne).setOther (a:=⟨r,2,none⟩) (ak bd) hne).setOther (a:=⟨r,3,none⟩) (ah pd ld cd) hne)),
    (((((((((hH.setOther (a:=⟨q,0,none⟩) (ak bn) hne2).setOther (a:=⟨q,1,none⟩) (ah pn ln cn) hne2).setOther (a:=⟨q,2,none⟩) (ak bd) hne2).setOther (a:=⟨q,3,none⟩) (ah pd ld cd) hne2).set 0 (ak bn)).set 1 (ah pn ln cn)).set 2 (ak bd)).set 3 (ah pd ld cd))),
    ((((((((HR.out.later hd).setOther (a:=⟨q,0,none⟩) (ak bn) nq).setOther (a:=⟨q,1,none⟩) (ah pn ln cn) nq).setOther (a:=⟨q,2,none⟩) (ak bd) nq).setOther (a:=⟨q,3,none⟩) (ah pd ld cd) nq).setOther (a:=⟨r,0,none⟩) (ak bn) nr).setOther (a:=⟨r,1,none⟩) (ah pn ln cn) nr).setOther (a:=⟨r,2,none⟩) (ak bd) nr).setOther (a:=⟨r,3,none⟩) (ah pd ld cd) nr,
    ((((((((Bt hz hd).setCell (p:=⟨q,0,none⟩) (bJ KU) (ak bn)).setCell (p:=⟨q,1,none⟩) (bJ KU) (ah pn ln cn)).setCell (p:=⟨q,2,none⟩) (bJ KU) (ak bd)).setCell (p:=⟨q,3,none⟩) (bJ KU) (ah pd ld cd)).setCell (p:=⟨r,0,none⟩) (bJ hgr) (ak bn)).setCell (p:=⟨r,1,none⟩) (bJ hgr) (ah pn ln cn)).setCell (p:=⟨r,2,none⟩) (bJ hgr) (ak bd)).setCell (p:=⟨r,3,none⟩) (bJ hgr) (ah pd ld cd)⟩
   exact ⟨rfl,rfl⟩
 case tl =>
  intro q r W9 ⟨KU,hgr,hne,g1,g2,g3,g4⟩;have hne2:r≠q:=fun e=>hne e.symm;have nq:w.heap.size≠q:=by omega
  have nr:w.heap.size≠r:=by omega
  have Y9:Hid (Hold w W9 q (j6 p (l.take 0))):=zh ⟨_,_,_,_,_,_,_,_,g1,R0.out⟩;have Yo:Hid (Hold w W9 r (iE p (l.take 0))):=zh ⟨_,_,_,_,_,_,_,_,g2,R0.out⟩;have HB0:=zh g4;replace HR:=zh g3;clear g1 g2 g3 g4 hz l1 hlr hbl R0 d1 d2 d3 d4;go_wp2_with fail
  go_loopw [6] (fun iv wr=>∃ m:Nat,iv= Z I (m:Int)∧1≤m∧m≤n1∧Hid (Below w.heap.size w wr)∧Hid (Hold w wr q (j6 p (l.take (m - 1))))∧Hid (Hold w wr r (iE p (l.take (m - 1))))∧Hid (aA wr w.heap.size #[Z I 0,Z I 0] 40)) (fun iv _=>n1 - (intOf iv).toNat)
  case atStart=>exact ⟨1,rfl,by omega,by omega,HB0,Y9,Yo,HR⟩
  case round =>
   obtain ⟨m,rfl,hm1,hm2,HB,HL,HH,HQ⟩:=hrel;clear HB0 Y9 Yo HR
   rcases aO m n1 with hlt|hge
   ·obtain ⟨b2,off2,xn,Il,Io,Iq,xd,Im,Ip,Ir,e,hbl,k1,k2,k3,k4,hra⟩:=H.out m hlt;simp only [Option.some.injEq,Addr.mk.injEq,and_true] at e;obtain ⟨rfl,rfl⟩:=e;have hstep:=LS.out (m - 1) zo;have hstep2:=HS.out (m - 1) zo;rw [show m - 1+1=m by omega] at hstep hstep2;have sx:=SZ.out m hlt;have sl:=SL.out (m - 1);have sh:=SH.out (m - 1);obtain ⟨yn,ypn,yln,ycn,yd,ypd,yld,ycd,Ut,hlo⟩:=HL.out;obtain ⟨zn,zpn,zln,zcn,zd,zpd,zld,zcd,KV,hhi⟩:=HH.out;have RX:=zh hra;have RL:=zh hlo;have RH:=zh hhi;have BL:=zh Ut;have BH:=zh KV;have O1:=zh (fun v v' W (h:Ra W v (g m)) (h':Ra W v' (j6 p (l.take (m - 1))))=>aH.jS v v' _ _ W h h' (sx.mono zo) (sl.mono zo));have O2:=zh (fun v v' W (h:Ra W v (g m)) (h':Ra W v' (iE p (l.take (m - 1))))=>aH.jS v v' _ _ W h h' (sx.mono zo) (sh.mono zo));have KC:=zh (And.intro k1 (And.intro k2 (And.intro k3 k4)))
    clear hra hlo hhi Ut KV sx sl sh k1 k2 k3 k4;generalize g m=X at *;generalize j6 p (l.take (m - 1))=LO at *;generalize iE p (l.take (m - 1))=HI at *;unfold oK at O1 O2;have HM:=zh (And.intro hstep hstep2);clear hstep hstep2 HL HH
    by_cases h1:X<LO
    ·rw [if_pos h1] at O1;go_wp2_with fail
     have cBL:=BL.out.cell;have lBL:=BL.out.lt;have hbw:=HB.out;have d1:=(hbw.cell (p:=⟨b,off+m*4,none⟩) hbl).trans KC.out.1;have d2:=(hbw.cell (p:=⟨b,off+m*4+1,none⟩) hbl).trans KC.out.2.1;have d3:=(hbw.cell (p:=⟨b,off+m*4+2,none⟩) hbl).trans KC.out.2.2.1;have d4:=(hbw.cell (p:=⟨b,off+m*4+3,none⟩) hbl).trans KC.out.2.2.2;have l1:b<wr.heap.size:=aI hbl hbw.size;refine aJ [(.pure,0),(.pure,1),(.pure,2),(.read,3),(.read,4),(.ext,5),(.pure,6)] zk zk zR zP ?_;refine Wk.out ?_;refine zS ?_;clear cBL lBL;clear hbw d1 d2 d3 d4 l1;refine fM rfl rfl (fun we hbe J hJ=>?_);go_simp;have hx:Below wr.heap.size wr we:=aF;refine (O1.out _ _ _ (RX.out.later (Bt HB.out hx)) (RL.out.later (Bt HB.out hx))).mono ?_;rintro e wy ⟨rfl,h⟩;have hy:=Bt hx h;refine hJ _ _ h ?_;clear hJ J hbe hx h;refine zS ?_;refine nD (fun wa hbf=>?_)
     have hy2:Below wr.heap.size wr wa:=Bt hy aF;replace BL:=zh (BL.out.later hy2);replace BH:=zh (BH.out.later hy2);replace HQ:=zh (HQ.out.later hy2);replace HB:=zh (Bt HB.out hy2);clear hy hy2 hbf;have cBL:=BL.out.cell;have fBL:=BL.out.free;have hbw:=HB.out;have d1:=(hbw.cell (p:=⟨b,off+m*4,none⟩) hbl).trans KC.out.1;have d2:=(hbw.cell (p:=⟨b,off+m*4+1,none⟩) hbl).trans KC.out.2.1;have d3:=(hbw.cell (p:=⟨b,off+m*4+2,none⟩) hbl).trans KC.out.2.2.1;have d4:=(hbw.cell (p:=⟨b,off+m*4+3,none⟩) hbl).trans KC.out.2.2.2;have l1:b<wa.heap.size:=aI hbl hbw.size;go_wp2_with fail
     clear cBL fBL;clear hbw d1 d2 d3 d4 l1;obtain ⟨wb,EW⟩:∃ y,(((wa.setCell ⟨q,0,none⟩ (ak xn)).setCell ⟨q,1,none⟩ (ah Il Io Iq)).setCell ⟨q,2,none⟩ (ak xd)).setCell ⟨q,3,none⟩ (ah Im Ip Ir)=y:=⟨_,rfl⟩;have t:=(((BL.out.set 0 (ak xn)).set 1 (ah Il Io Iq)).set 2 (ak xd)).set 3 (ah Im Ip Ir);rw [EW] at t;replace BL:Hid (aA wb q #[ak xn,ah Il Io Iq,ak xd,ah Im Ip Ir] 163):=zh t;clear t;have t:=(((BH.out.setOther (a:=⟨q,0,none⟩) (ak xn) hne2).setOther (a:=⟨q,1,none⟩) (ah Il Io Iq) hne2).setOther (a:=⟨q,2,none⟩) (ak xd) hne2).setOther (a:=⟨q,3,none⟩) (ah Im Ip Ir) hne2;rw [EW] at t;replace BH:=zh t;clear t;have t:=(((HQ.out.setOther (a:=⟨q,0,none⟩) (ak xn) nq).setOther (a:=⟨q,1,none⟩) (ah Il Io Iq) nq).setOther (a:=⟨q,2,none⟩) (ak xd) nq).setOther (a:=⟨q,3,none⟩) (ah Im Ip Ir) nq;rw [EW] at t
     replace HQ:=zh t;clear t;have t:=(((HB.out.setCell (p:=⟨q,0,none⟩) (bJ KU) (ak xn)).setCell (p:=⟨q,1,none⟩) (bJ KU) (ah Il Io Iq)).setCell (p:=⟨q,2,none⟩) (bJ KU) (ak xd)).setCell (p:=⟨q,3,none⟩) (bJ KU) (ah Im Ip Ir);rw [EW] at t;replace HB:=zh t;clear t;rw [EW];clear EW
     by_cases h2:HI<X
     ·rw [if_neg (by grind),if_pos h2] at O2;have Vb:=BH.out.cell;have Z9:=BH.out.lt;have hbw:=HB.out;have d1:=(hbw.cell (p:=⟨b,off+m*4,none⟩) hbl).trans KC.out.1;have d2:=(hbw.cell (p:=⟨b,off+m*4+1,none⟩) hbl).trans KC.out.2.1;have d3:=(hbw.cell (p:=⟨b,off+m*4+2,none⟩) hbl).trans KC.out.2.2.1;have d4:=(hbw.cell (p:=⟨b,off+m*4+3,none⟩) hbl).trans KC.out.2.2.2;have l1:b<wb.heap.size:=aI hbl hbw.size;refine aJ [(.pure,0),(.pure,1),(.pure,2),(.read,3),(.read,4),(.ext,5),(.pure,6)] zk zk zR zP ?_;refine Wk.out ?_;refine zS ?_;clear Vb Z9;clear hbw d1 d2 d3 d4 l1;refine fM rfl rfl (fun we hbe J hJ=>?_);go_simp;have hx:Below wb.heap.size wb we:=aF;refine (O2.out _ _ _ (RX.out.later (Bt HB.out hx)) (RH.out.later (Bt HB.out hx))).mono ?_;rintro e wy ⟨rfl,h⟩;have hy:=Bt hx h;refine hJ _ _ h ?_;clear hJ J hbe hx h;refine zS ?_;refine nD (fun wc hbf=>?_)
      have hy2:Below wb.heap.size wb wc:=Bt hy aF;replace BL:=zh (BL.out.later hy2);replace BH:=zh (BH.out.later hy2);replace HQ:=zh (HQ.out.later hy2);replace HB:=zh (Bt HB.out hy2);clear hy hy2 hbf;have Vb:=BH.out.cell;have fBH:=BH.out.free;have hbw:=HB.out;have d1:=(hbw.cell (p:=⟨b,off+m*4,none⟩) hbl).trans KC.out.1;have d2:=(hbw.cell (p:=⟨b,off+m*4+1,none⟩) hbl).trans KC.out.2.1;have d3:=(hbw.cell (p:=⟨b,off+m*4+2,none⟩) hbl).trans KC.out.2.2.1;have d4:=(hbw.cell (p:=⟨b,off+m*4+3,none⟩) hbl).trans KC.out.2.2.2;have l1:b<wc.heap.size:=aI hbl hbw.size;go_wp2_with fail
      clear Vb fBH;clear hbw d1 d2 d3 d4 l1;obtain ⟨wd,EW⟩:∃ y,(((wc.setCell ⟨r,0,none⟩ (ak xn)).setCell ⟨r,1,none⟩ (ah Il Io Iq)).setCell ⟨r,2,none⟩ (ak xd)).setCell ⟨r,3,none⟩ (ah Im Ip Ir)=y:=⟨_,rfl⟩;have t:=(((BH.out.set 0 (ak xn)).set 1 (ah Il Io Iq)).set 2 (ak xd)).set 3 (ah Im Ip Ir);rw [EW] at t;replace BH:Hid (aA wd r #[ak xn,ah Il Io Iq,ak xd,ah Im Ip Ir] 163):=zh t;clear t;have t:=(((BL.out.setOther (a:=⟨r,0,none⟩) (ak xn) hne).setOther (a:=⟨r,1,none⟩) (ah Il Io Iq) hne).setOther (a:=⟨r,2,none⟩) (ak xd) hne).setOther (a:=⟨r,3,none⟩) (ah Im Ip Ir) hne;rw [EW] at t;replace BL:=zh t;clear t;have t:=(((HQ.out.setOther (a:=⟨r,0,none⟩) (ak xn) nr).setOther (a:=⟨r,1,none⟩) (ah Il Io Iq) nr).setOther (a:=⟨r,2,none⟩) (ak xd) nr).setOther (a:=⟨r,3,none⟩) (ah Im Ip Ir) nr;rw [EW] at t
      replace HQ:=zh t;clear t;have t:=(((HB.out.setCell (p:=⟨r,0,none⟩) (bJ hgr) (ak xn)).setCell (p:=⟨r,1,none⟩) (bJ hgr) (ah Il Io Iq)).setCell (p:=⟨r,2,none⟩) (bJ hgr) (ak xd)).setCell (p:=⟨r,3,none⟩) (bJ hgr) (ah Im Ip Ir);rw [EW] at t;replace HB:=zh t;clear t;rw [EW];clear EW;go_roundw
      case rel=>exact ⟨m+1,by go_num,by omega,by omega,HB,zh (by rw [dS,HM.out.1,if_pos h1];exact ⟨_,_,_,_,_,_,_,_,BL.out,RX.out⟩),zh (by rw [dS,HM.out.2,if_pos h2];exact ⟨_,_,_,_,_,_,_,_,BH.out,RX.out⟩),HQ⟩
      case measure=>simp [intOf]<;>omega
     ·have ho3:∃ o:Int,(if X<HI then (-1:Int) else if HI<X then 1 else 0)=o∧decide (0<o)=false:=⟨_,rfl,by rw [if_neg h2];split<;>rfl⟩;obtain ⟨o2,ho4,ho5⟩:=ho3;rw [ho4] at O2;clear ho4;have Vb:=BH.out.cell;have Z9:=BH.out.lt;have hbw:=HB.out;have d1:=(hbw.cell (p:=⟨b,off+m*4,none⟩) hbl).trans KC.out.1;have d2:=(hbw.cell (p:=⟨b,off+m*4+1,none⟩) hbl).trans KC.out.2.1;have d3:=(hbw.cell (p:=⟨b,off+m*4+2,none⟩) hbl).trans KC.out.2.2.1;have d4:=(hbw.cell (p:=⟨b,off+m*4+3,none⟩) hbl).trans KC.out.2.2.2;have l1:b<wb.heap.size:=aI hbl hbw.size;refine aJ [(.pure,0),(.pure,1),(.pure,2),(.read,3),(.read,4),(.ext,5),(.pure,6)] zk zk zR zP ?_;refine Wk.out ?_;refine zS ?_;clear Vb Z9;clear hbw d1 d2 d3 d4 l1;refine fM rfl rfl (fun we hbe J hJ=>?_);go_simp;have hx:Below wb.heap.size wb we:=aF
      refine (O2.out _ _ _ (RX.out.later (Bt HB.out hx)) (RH.out.later (Bt HB.out hx))).mono ?_;rintro e wy ⟨rfl,h⟩;have hy:=Bt hx h;refine hJ _ _ h ?_;clear hJ J hbe hx h;refine zS ?_;refine nD (fun wc hbf=>?_);have hy2:Below wb.heap.size wb wc:=Bt hy aF;replace BL:=zh (BL.out.later hy2);replace BH:=zh (BH.out.later hy2);replace HQ:=zh (HQ.out.later hy2);replace HB:=zh (Bt HB.out hy2);clear hy hy2 hbf;go_wp2_with fail
      go_roundw
      case rel=>exact ⟨m+1,by go_num,by omega,by omega,HB,zh (by rw [dS,HM.out.1,if_pos h1];exact ⟨_,_,_,_,_,_,_,_,BL.out,RX.out⟩),zh (by rw [dS,HM.out.2,if_neg h2];exact ⟨_,_,_,_,_,_,_,_,BH.out,RH.out⟩),HQ⟩
      case measure=>simp [intOf]<;>omega
   
    ·rw [if_neg h1] at O1;obtain ⟨o1,ho1,ho2⟩:∃ o:Int,(if LO<X then (1:Int) else 0)=o∧decide (o<0)=false:=⟨_,rfl,by split<;>rfl⟩;rw [ho1] at O1;clear ho1;go_wp2_with fail
     have cBL:=BL.out.cell;have lBL:=BL.out.lt;have hbw:=HB.out;have d1:=(hbw.cell (p:=⟨b,off+m*4,none⟩) hbl).trans KC.out.1;have d2:=(hbw.cell (p:=⟨b,off+m*4+1,none⟩) hbl).trans KC.out.2.1;have d3:=(hbw.cell (p:=⟨b,off+m*4+2,none⟩) hbl).trans KC.out.2.2.1;have d4:=(hbw.cell (p:=⟨b,off+m*4+3,none⟩) hbl).trans KC.out.2.2.2;have l1:b<wr.heap.size:=aI hbl hbw.size;refine aJ [(.pure,0),(.pure,1),(.pure,2),(.read,3),(.read,4),(.ext,5),(.pure,6)] zk zk zR zP ?_;refine Wk.out ?_;refine zS ?_;clear cBL lBL;clear hbw d1 d2 d3 d4 l1;refine fM rfl rfl (fun we hbe J hJ=>?_);go_simp;have hx:Below wr.heap.size wr we:=aF;refine (O1.out _ _ _ (RX.out.later (Bt HB.out hx)) (RL.out.later (Bt HB.out hx))).mono ?_;rintro e wy ⟨rfl,h⟩;have hy:=Bt hx h;refine hJ _ _ h ?_;clear hJ J hbe hx h;refine zS ?_;refine nD (fun wa hbf=>?_)
     have hy2:Below wr.heap.size wr wa:=Bt hy aF;replace BL:=zh (BL.out.later hy2);replace BH:=zh (BH.out.later hy2);replace HQ:=zh (HQ.out.later hy2);replace HB:=zh (Bt HB.out hy2);clear hy hy2 hbf;go_wp2_with fail
     by_cases h2:HI<X
     ·rw [if_neg (by grind),if_pos h2] at O2;have Vb:=BH.out.cell;have Z9:=BH.out.lt;have hbw:=HB.out;have d1:=(hbw.cell (p:=⟨b,off+m*4,none⟩) hbl).trans KC.out.1;have d2:=(hbw.cell (p:=⟨b,off+m*4+1,none⟩) hbl).trans KC.out.2.1;have d3:=(hbw.cell (p:=⟨b,off+m*4+2,none⟩) hbl).trans KC.out.2.2.1;have d4:=(hbw.cell (p:=⟨b,off+m*4+3,none⟩) hbl).trans KC.out.2.2.2;have l1:b<wa.heap.size:=aI hbl hbw.size;refine aJ [(.pure,0),(.pure,1),(.pure,2),(.read,3),(.read,4),(.ext,5),(.pure,6)] zk zk zR zP ?_;refine Wk.out ?_;refine zS ?_;clear Vb Z9;clear hbw d1 d2 d3 d4 l1;refine fM rfl rfl (fun we hbe J hJ=>?_);go_simp;have hx:Below wa.heap.size wa we:=aF;refine (O2.out _ _ _ (RX.out.later (Bt HB.out hx)) (RH.out.later (Bt HB.out hx))).mono ?_;rintro e wy ⟨rfl,h⟩;have hy:=Bt hx h;refine hJ _ _ h ?_;clear hJ J hbe hx h;refine zS ?_;refine nD (fun wc hbf=>?_)
      have hy2:Below wa.heap.size wa wc:=Bt hy aF;replace BL:=zh (BL.out.later hy2);replace BH:=zh (BH.out.later hy2);replace HQ:=zh (HQ.out.later hy2);replace HB:=zh (Bt HB.out hy2);clear hy hy2 hbf;have Vb:=BH.out.cell;have fBH:=BH.out.free;have hbw:=HB.out;have d1:=(hbw.cell (p:=⟨b,off+m*4,none⟩) hbl).trans KC.out.1;have d2:=(hbw.cell (p:=⟨b,off+m*4+1,none⟩) hbl).trans KC.out.2.1;have d3:=(hbw.cell (p:=⟨b,off+m*4+2,none⟩) hbl).trans KC.out.2.2.1;have d4:=(hbw.cell (p:=⟨b,off+m*4+3,none⟩) hbl).trans KC.out.2.2.2;have l1:b<wc.heap.size:=aI hbl hbw.size;go_wp2_with fail
      clear Vb fBH;clear hbw d1 d2 d3 d4 l1;obtain ⟨wd,EW⟩:∃ y,(((wc.setCell ⟨r,0,none⟩ (ak xn)).setCell ⟨r,1,none⟩ (ah Il Io Iq)).setCell ⟨r,2,none⟩ (ak xd)).setCell ⟨r,3,none⟩ (ah Im Ip Ir)=y:=⟨_,rfl⟩;have t:=(((BH.out.set 0 (ak xn)).set 1 (ah Il Io Iq)).set 2 (ak xd)).set 3 (ah Im Ip Ir);rw [EW] at t;replace BH:Hid (aA wd r #[ak xn,ah Il Io Iq,ak xd,ah Im Ip Ir] 163):=zh t;clear t;have t:=(((BL.out.setOther (a:=⟨r,0,none⟩) (ak xn) hne).setOther (a:=⟨r,1,none⟩) (ah Il Io Iq) hne).setOther (a:=⟨r,2,none⟩) (ak xd) hne).setOther (a:=⟨r,3,none⟩) (ah Im Ip Ir) hne;rw [EW] at t;replace BL:=zh t;clear t;have t:=(((HQ.out.setOther (a:=⟨r,0,none⟩) (ak xn) nr).setOther (a:=⟨r,1,none⟩) (ah Il Io Iq) nr).setOther (a:=⟨r,2,none⟩) (ak xd) nr).setOther (a:=⟨r,3,none⟩) (ah Im Ip Ir) nr;rw [EW] at t
      replace HQ:=zh t;clear t;have t:=(((HB.out.setCell (p:=⟨r,0,none⟩) (bJ hgr) (ak xn)).setCell (p:=⟨r,1,none⟩) (bJ hgr) (ah Il Io Iq)).setCell (p:=⟨r,2,none⟩) (bJ hgr) (ak xd)).setCell (p:=⟨r,3,none⟩) (bJ hgr) (ah Im Ip Ir);rw [EW] at t;replace HB:=zh t;clear t;rw [EW];clear EW;go_roundw
      case rel=>exact ⟨m+1,by go_num,by omega,by omega,HB,zh (by rw [dS,HM.out.1,if_neg h1];exact ⟨_,_,_,_,_,_,_,_,BL.out,RL.out⟩),zh (by rw [dS,HM.out.2,if_pos h2];exact ⟨_,_,_,_,_,_,_,_,BH.out,RX.out⟩),HQ⟩
      case measure=>simp [intOf]<;>omega
     ·have ho3:∃ o:Int,(if X<HI then (-1:Int) else if HI<X then 1 else 0)=o∧decide (0<o)=false:=⟨_,rfl,by rw [if_neg h2];split<;>rfl⟩;obtain ⟨o2,ho4,ho5⟩:=ho3;rw [ho4] at O2;clear ho4;have Vb:=BH.out.cell;have Z9:=BH.out.lt;have hbw:=HB.out;have d1:=(hbw.cell (p:=⟨b,off+m*4,none⟩) hbl).trans KC.out.1;have d2:=(hbw.cell (p:=⟨b,off+m*4+1,none⟩) hbl).trans KC.out.2.1;have d3:=(hbw.cell (p:=⟨b,off+m*4+2,none⟩) hbl).trans KC.out.2.2.1;have d4:=(hbw.cell (p:=⟨b,off+m*4+3,none⟩) hbl).trans KC.out.2.2.2;have l1:b<wa.heap.size:=aI hbl hbw.size;refine aJ [(.pure,0),(.pure,1),(.pure,2),(.read,3),(.read,4),(.ext,5),(.pure,6)] zk zk zR zP ?_;refine Wk.out ?_;refine zS ?_;clear Vb Z9;clear hbw d1 d2 d3 d4 l1;refine fM rfl rfl (fun we hbe J hJ=>?_);go_simp;have hx:Below wa.heap.size wa we:=aF
      refine (O2.out _ _ _ (RX.out.later (Bt HB.out hx)) (RH.out.later (Bt HB.out hx))).mono ?_;rintro e wy ⟨rfl,h⟩;have hy:=Bt hx h;refine hJ _ _ h ?_;clear hJ J hbe hx h;refine zS ?_;refine nD (fun wc hbf=>?_);have hy2:Below wa.heap.size wa wc:=Bt hy aF;replace BL:=zh (BL.out.later hy2);replace BH:=zh (BH.out.later hy2);replace HQ:=zh (HQ.out.later hy2);replace HB:=zh (Bt HB.out hy2);clear hy hy2 hbf;go_wp2_with fail
      go_roundw
      case rel=>exact ⟨m+1,by go_num,by omega,by omega,HB,zh (by rw [dS,HM.out.1,if_neg h1];exact ⟨_,_,_,_,_,_,_,_,BL.out,RL.out⟩),zh (by rw [dS,HM.out.2,if_neg h2];exact ⟨_,_,_,_,_,_,_,_,BH.out,RH.out⟩),HQ⟩
      case measure=>simp [intOf]<;>omega
   ·obtain rfl:m=n1:=by omega
    rw [HE.out] at HL HH;obtain ⟨yn,ypn,yln,ycn,yd,ypd,yld,ycd,Ut,hlo⟩:=HL.out;obtain ⟨zn,zpn,zln,zcn,zd,zpd,zld,zcd,KV,hhi⟩:=HH.out;have cl:=Ut.cell;have ll:=Ut.lt;have ch:=KV.cell;have lh:=KV.lt;go_wp2_with fail
    refine (TG.out _ _ _ (hlo.later HB.out) (hhi.later HB.out)).mono ?_;rintro e wy ⟨rfl,h⟩;have hr:=HQ.out.later h;have hb:=Bt HB.out h;have cr:=hr.cell;have fr:=hr.free;clear cl ll ch lh Ut KV h;go_wp2_with fail
    refine bH rfl rfl ((hr.set 0 _).set 1 _) Tryz.underlying40 rfl zk ?_;exact ⟨rfl,(hb.setCell (p:=⟨w.heap.size,0,none⟩) (aD _) _).setCell (p:=⟨w.heap.size,1,none⟩) (aD _) _⟩
end Go.Proofs.aU
namespace Go.Proofs.aU
open Go Go.RowKit Go.SW Go.Num Go.Mem Go.Proofs Go.Dec Go.gD Go.Proofs.dH Go.Proofs.aH Go.Proofs.aC Go.Proofs.ko Go.Fx
def sel (a:Int × Int) (k:Nat):Int:=if k=0 then a.1 else a.2
theorem Ta (a:Int × Int) {k:Nat} (hk:k<2) (W:World):(Instr.index 199 (au #[Z I a.1,Z I a.2]) (Z I (k:Int))).run Tryz.prog W= .ok (Z I (sel a k)) W:=by
 have h1:k=0∨k=1:=by omega
 rcases h1 with rfl|rfl
 ·show _=_;kernel_rfl
 ·show _=_;kernel_rfl
theorem II {n:Int} (h:n≠0):un n≠0:=fun e=>by
 have h1:=PY n;rw [e,Rat.zero_mul] at h1;exact h (by exact_mod_cast h1.symm)
theorem xA {p q:Rat} (h:jw 10 p) (k:jw 10 q) (h0:q≠0):jw 30 (p / q):=by
 rw [Rat.div_def];exact (rH h (Gi k h0)).mono zo
theorem Yu (x y z t:Int) (w:World) (h:¬ (iG x y=true∧iG z t=true)):Calls Tryz.prog 165 #[au #[Z I x,Z I y],au #[Z I z,Z I t]] w (fun e w'=>e= aj (d9 ((0,0),30))∧Below w.heap.size w w'):=by
 have R1:=fun W=>kV x y W;have R2:=fun W=>kV z t W;cases h1:iG x y
 ·rw [h1] at R1;refine Fx.door Tryz.func165 rfl (.nil w []) ?_;refine Fx.new [] 2 #[Z I x,Z I y] 40 [] [] fun gM=>?_;refine Fx.new [] 3 #[Z I z,Z I t] 40 [] [] fun gI=>?_;refine Fx.aY [] 4 40 [] [] fun gH=>?_;refine Fx.dD [3] 12 [] [] R1 ?_;exact Fx.fU 2 gH [0,0,1,5] [(2,#[Z I 0,Z I 0])] (fun W M=>⟨rfl,M.below⟩)
 ·have h2:iG z t=false:=by
   cases h2:iG z t
   ·rfl
   ·exact absurd ⟨h1,h2⟩ h
  rw [h1] at R1;rw [h2] at R2;refine Fx.door Tryz.func165 rfl (.nil w []) ?_;refine Fx.new [] 2 #[Z I x,Z I y] 40 [] [] fun gM=>?_;refine Fx.new [] 3 #[Z I z,Z I t] 40 [] [] fun gI=>?_;refine Fx.aY [] 4 40 [] [] fun gH=>?_;refine Fx.dD [3] 12 [] [] R1 ?_;refine Fx.dD [4] 16 [(14,ak false)] [] R2 ?_;exact Fx.fU 2 gH [1,5] [(2,#[Z I 0,Z I 0])] (fun W M=>⟨rfl,M.below⟩)
def BP (a b:Int × Int):List Rat:=[un a.1 / un b.1,un a.1 / un b.2,un a.2 / un b.1,un a.2 / un b.2]
theorem Lx (a b:Int × Int) {k j:Nat} (hk:k<2) (hj:j<2):(BP a b).take (2*k+(j+1))=(BP a b).take (2*k+j)++[un (sel a k) / un (sel b j)]:=by
 have h1:k=0∨k=1:=by omega
 have h2:j=0∨j=1:=by omega
 rcases h1 with rfl|rfl<;>rcases h2 with rfl|rfl<;>rfl
theorem VD (x y z t:Int) (w:World) (h1:iG x y=true) (h2:iG z t=true) (hn:¬ (z≤0∧0≤t)):Calls Tryz.prog 165 #[au #[Z I x,Z I y],au #[Z I z,Z I t]] w (fun e w'=>e= aj (d9 (rO (fun x y up=>nS x 1000000000000 y up) (x,y) (z,t)))∧Below w.heap.size w w'):=by
  obtain ⟨i0,hi,hz0,hz1,hz2⟩:=info_parts aa2;have n1:z≠0:=fun e=>hn ⟨by omega,by have:=(Hz h2).2.1;omega⟩;have n2:t≠0:=fun e=>hn ⟨by have:=(Hz h2).2.1;omega,by omega⟩;have hs0:∀ j,sel (z,t) j≠0:=fun j=>by unfold sel;split<;>assumption
  have R1:=zh (fun W=>h1 ▸ kV x y W);have R2:=zh (fun W=>h2 ▸ kV z t W);obtain ⟨b1,b2,b3⟩:=Hz h1;obtain ⟨b4,b5,b6⟩:=Hz h2;have bs:∀ k, -9223372036854775808≤sel (x,y) k∧sel (x,y) k≤9223372036854775807:=fun k=>by unfold sel;split<;>simp only<;>omega
  have cs:∀ k, -9223372036854775808≤sel (z,t) k∧sel (z,t) k≤9223372036854775807:=fun k=>by unfold sel;split<;>simp only<;>omega
  have V1:=zh (fun k W=>FP (sel (x,y) k) (bs k).1 (bs k).2 W);have V2:=zh (fun k W=>FP (sel (z,t) k) (cs k).1 (cs k).2 W);have s1:=fun k=>YE (sel (x,y) k) (bs k).1 (bs k).2;have s2:=fun k=>YE (sel (z,t) k) (cs k).1 (cs k).2;have T1:=zh (fun k j v v' W (h:Ra W v (un (sel (x,y) k))) (h':Ra W v' (un (sel (z,t) j)))=>(Pv v v' _ _ W h h' ((s1 k).mono zo) ((s2 j).mono zo) (II (hs0 j))).mono fun _ _ q=>qz q)
  have sp:∀ q∈BP (x,y) (z,t),jw 30 q:=fun q hq=>by
   unfold BP at hq;simp only [dR,List.not_mem_nil,or_false] at hq
   rcases hq with rfl|rfl|rfl|rfl
   ·exact xA (s1 0) (s2 0) (II (hs0 0))
   ·exact xA (s1 0) (s2 1) (II (hs0 1))
   ·exact xA (s1 1) (s2 0) (II (hs0 0))
   ·exact xA (s1 1) (s2 1) (II (hs0 1))
  have BT:Hid (∀ v W,Ic W v (BP (x,y) (z,t))→Calls Tryz.prog 217 #[v] W (fun e w'=>e= aj (d9 (rO (fun x y up=>nS x 1000000000000 y up) (x,y) (z,t)))∧Below W.heap.size W w')):=zh fun v W h=>by
   have:=MS v (un x / un z) [un x / un t,un y / un z,un y / un t] 4 W h rfl zo sp;rw [show j6 (un x / un z) [un x / un t,un y / un z,un y / un t]=j6 (un (x,y).1 / un (z,t).1) [un (x,y).1 / un (z,t).2,un (x,y).2 / un (z,t).1,un (x,y).2 / un (z,t).2] from rfl,show iE (un x / un z) [un x / un t,un y / un z,un y / un t]=iE (un (x,y).1 / un (z,t).1) [un (x,y).1 / un (z,t).2,un (x,y).2 / un (z,t).1,un (x,y).2 / un (z,t).2] from rfl,P5 (x,y) (z,t) n1 n2] at this;exact this
  have I1:=zh (fun k (hk:k<2) W=>Ta (x,y) hk W);have I2:=zh (fun k (hk:k<2) W=>Ta (z,t) hk W);have PT:=zh (fun k j (hk:k<2) (hj:j<2)=>Lx (x,y) (z,t) hk hj);have PL:Hid ((BP (x,y) (z,t)).length=4):=zh rfl;obtain ⟨e1,e2,ek,ex⟩:=zA (rO (fun x y up=>nS x 1000000000000 y up) (x,y) (z,t));rw [ex] at BT ⊢;unfold d9 at BT ⊢;generalize BP (x,y) (z,t)=P at *;clear h1 h2 b1 b2 b3 b4 b5 b6 bs cs s1 s2 sp ex n1 n2 hs0;have g:(¬ z≤0)∨(z≤0∧¬ 0≤t):=by omega
  clear hn
  rcases g with g1|⟨g1,g2⟩
  all_goals
   go_enter Tryz.func165,Tryz.ntmps165
   go_wp2_with fail
   obtain ⟨u0,EW,hz,HX,HY,HR⟩:=MW w #[Z I x,Z I y] 40 #[Z I z,Z I t] 40 #[Z I 0,Z I 0] 40;rw [EW];have HB:=zh hz;clear EW hz;refine (R1.out _).mono ?_;rintro e u1 ⟨rfl,h⟩;replace HX:=zh (HX.out.later h);replace HY:=zh (HY.out.later h);replace HR:=zh (HR.out.later h);replace HB:=zh (Bt HB.out h);clear h;have YX:=HY.out.cell;have YI:=HY.out.lt;go_wp2_with fail
   clear YX YI;refine (R2.out _).mono ?_;rintro e u2 ⟨rfl,h⟩;replace HX:=zh (HX.out.later h);replace HY:=zh (HY.out.later h);replace HR:=zh (HR.out.later h);replace HB:=zh (Bt HB.out h);clear h;obtain ⟨wN,wF⟩:=HX.cl;obtain ⟨YX,YI⟩:=HY.cl;go_wp2_with fail
   clear wN wF YX YI;clear HX
   go_loopw [6,34] (fun ov iv wr=>∃ k:Nat,iv= Z I (k:Int)∧k≤2∧Hid (mI wr u2.heap.size 163 4 Vo ov (P.take (2*k)))∧Below u2.heap.size u2 wr) (fun _ iv _=>2 - (intOf iv).toNat)
   case atStart=>exact ⟨0,rfl,by omega,zh (mI.nil _ _ _ _ _),Below.refl _ _⟩
   case round =>
    obtain ⟨k,rfl,hk,HG,hb⟩:=hrel
    rcases aO k 2 with hlt|hge
    ·obtain ⟨ov,cv,rfl⟩:=HG.out.at (n:=2*k) (by rw [List.length_take,PL.out];omega);have hix:∀ W,(Instr.index 199 (au #[Z I x,Z I y]) (Z I (k:Int))).run Tryz.prog W= .ok (Z I (sel (x,y) k)) W:=I1.out k hlt;have hkk:(k:Int)<2:=by omega
     have VK:=zh (V1.out k);obtain ⟨X,hX⟩:∃ X,sel (x,y) k=X:=⟨_,rfl⟩;have TK:=zh (T1.out k);have PK:=zh (fun j=>PT.out k j hlt);rw [hX] at hix VK TK;simp only [hX] at PK;have hby:=HY.out.later hb;have cy:=hby.cell;have ly:=hby.lt;have HBo:=zh hb;clear hX hb;go_wp2_with fail
     clear cy ly hby hix hkk
     go_loopw [6,42] (fun ov iv wr=>∃ j:Nat,iv= Z I (j:Int)∧j≤2∧Hid (mI wr u2.heap.size 163 4 Vo ov (P.take (2*k+j)))∧Below u2.heap.size u2 wr) (fun _ iv _=>2 - (intOf iv).toNat)
     case atStart=>exact ⟨0,rfl,by omega,HG,HBo.out⟩
     case round =>
      obtain ⟨j,rfl,hj,HG2,hbi⟩:=hrel
      rcases aO j 2 with hjlt|aO9
      ·obtain ⟨ov2,cv2,rfl⟩:=HG2.out.at (n:=2*k+j) (by rw [List.length_take,PL.out];omega);have hix:∀ W,(Instr.index 199 (au #[Z I z,Z I t]) (Z I (j:Int))).run Tryz.prog W= .ok (Z I (sel (z,t) j)) W:=I2.out j hjlt;have hjj:(j:Int)<2:=by omega
       have VJ:=zh (V2.out j);have TJ:=zh (TK.out j);have PJ:=zh (PK.out j hjlt);obtain ⟨Y,hY⟩:∃ Y,sel (z,t) j=Y:=⟨_,rfl⟩;rw [hY] at hix VJ TJ PJ;have HB:=zh hbi;clear hbi hY;go_wp2_with fail
       clear hix hjj;have Pz:=zh (Below.refl wr.heap.size wr);refine (VK.out _).mono ?_;rintro e u11 ⟨v1,rfl,h,hm⟩;replace HB:=zh (Bt HB.out h);replace Pz:=zh (Bt Pz.out h);clear h;have F1:=zh hm;clear hm;go_wp2_with fail
       refine (VJ.out _).mono ?_;rintro e u12 ⟨v2,rfl,h,hm⟩;replace F1:=zh (F1.out.later h);replace HB:=zh (Bt HB.out h);replace Pz:=zh (Bt Pz.out h);clear h;have F2:=zh hm;clear hm;go_wp2_with fail
       refine (TJ.out _ _ _ F1.out F2.out).mono ?_;rintro e u13 ⟨bn,pn,ln,cn,bd,pd,ld,cd,rfl,h,hm⟩;replace F1:=zh (F1.out.later h);replace F2:=zh (F2.out.later h);replace HB:=zh (Bt HB.out h);replace Pz:=zh (Bt Pz.out h);clear h;have HA:=zh hm;clear hm;have HG3:=zh (HG2.out.later (show Below wr.heap.size wr u13 from by have:=Pz.out;exact this) (Vo.stay zi));clear HG2 F1 F2 Pz;go_wp2_with (at_builtin;refine IG (w0:=u2) rfl (.tmp 45) (.tmp 51) 226 rfl 163 i0 (au #[ak false,ah none 0 0,ak false,ah none 0 0]) 4 64 Tryz.underlying226 hi hz0 hz1 hz2 rfl zd Vo _ (P.take (2*k+j)) rfl (HG3.out.later aF (Vo.stay zi)) (Bt HB.out aF) _ [ak bn,ah pn ln cn,ak bd,ah pd ld cd] (un X / un Y) rfl (aA.new _ _ _) rfl ?c1 ⟨_,_,_,_,_,_,_,_,rfl,HA.out.later aF⟩ (Vo.stay zi) ?c2 zo ?_)
       case c1=>intro u hu;simp only [dR,List.not_mem_nil,or_false] at hu;rcases hu with rfl|rfl|rfl|rfl<;>rfl
       case c2=>rw [List.length_take,PL.out];omega
       intro v' w2 hg hb2 _;have HG4:Hid (mI w2 u2.heap.size 163 4 Vo v' (P.take (2*k+(j+1)))):=zh (by rw [PJ.out];exact hg);clear hg HG3 HB HA;go_wp2_with fail
       go_roundw
       case rel=>exact ⟨j+1,by go_num,by omega,HG4,hb2⟩
       case measure=>exact zM
      ·obtain rfl:j=2:=by omega
       go_wp2_with fail
       go_roundw
       case rel=>exact ⟨k+1,by go_num,by omega,HG2,hbi⟩
       case measure=>exact zM
    ·obtain rfl:k=2:=by omega
     have e:P.take (2*2)=P:=dG (by rw [PL.out];omega);rw [e] at HG;have HV:Hid (Ic wr _ _):=zh HG.out.slV;obtain ⟨ov,cv,rfl⟩:=HG.out.at (n:=4) PL.out;replace HB:=zh (Bt HB.out hb);replace HR:=zh (HR.out.later hb);clear HG hb HY;go_wp2_with fail
     refine (BT.out _ _ HV.out).mono ?_;rintro e wz ⟨rfl,h⟩;have hr:=HR.out.later h;have cr:=hr.cell;have fr:=hr.free;have hb:=Bt HB.out h;clear h;go_wp2_with fail

     refine bH rfl rfl ((hr.set 0 _).set 1 _) Tryz.underlying40 rfl zk ?_;exact ⟨rfl,(hb.setCell (p:=⟨w.heap.size+1+1,0,none⟩) (by show w.heap.size≤w.heap.size+1+1;omega) _).setCell (p:=⟨w.heap.size+1+1,1,none⟩) (by show w.heap.size≤w.heap.size+1+1;omega) _⟩
theorem VB (x y z t:Int) (w:World) (h1:iG x y=true) (h2:iG z t=true) (g1:z≤0) (g2:0≤t):Calls Tryz.prog 165 #[au #[Z I x,Z I y],au #[Z I z,Z I t]] w (fun e w'=>e= aj (d9 ((0,0),7))∧Below w.heap.size w w'):=by
 have R1:=zh (fun W=>h1 ▸ kV x y W);have R2:=zh (fun W=>h2 ▸ kV z t W);clear h1 h2;unfold d9;go_enter Tryz.func165,Tryz.ntmps165
 go_wp2_with fail
 obtain ⟨u0,EW,hz,HX,HY,HR⟩:=MW w #[Z I x,Z I y] 40 #[Z I z,Z I t] 40 #[Z I 0,Z I 0] 40;rw [EW];have HB:=zh hz;clear EW hz;refine (R1.out _).mono ?_;rintro e u1 ⟨rfl,h⟩;replace HY:=HY.bl h;replace HR:=HR.bl h;replace HB:=zh (Bt HB.out h);clear h;obtain ⟨YX,YI⟩:=HY.cl;go_wp2_with fail
 clear YX YI;refine (R2.out _).mono ?_;rintro e u2 ⟨rfl,h⟩;replace HY:=HY.bl h;replace HR:=HR.bl h;replace HB:=zh (Bt HB.out h);clear h;obtain ⟨YX,YI⟩:=HY.cl;obtain ⟨cHR,lHR,fHR⟩:=HR.clf;go_wp2_with fail
 have hr:=HR.out;have hb:=HB.out;refine bH rfl rfl ((hr.set 0 _).set 1 _) Tryz.underlying40 rfl zk ?_;exact ⟨rfl,(hb.setCell (p:=⟨w.heap.size+1+1,0,none⟩) (by show w.heap.size≤w.heap.size+1+1;omega) _).setCell (p:=⟨w.heap.size+1+1,1,none⟩) (by show w.heap.size≤w.heap.size+1+1;omega) _⟩
theorem sI (a b:Int × Int) (w:World):Calls Tryz.prog 165 #[au #[Z I a.1,Z I a.2],au #[Z I b.1,Z I b.2]] w (fun e w'=>e= aj (d9 (dH.yA a b))∧Below w.heap.size w w'):=by
 unfold dH.yA okB dH.XI;simp only [gW,List.all_nil,Bool.and_true]
 by_cases h:iG a.1 a.2=true∧iG b.1 b.2=true
 ·rw [if_pos (by simp [h.1,h.2])]
  by_cases hn:b.1≤0∧0≤b.2
  ·rw [if_pos hn];exact VB _ _ _ _ w h.1 h.2 hn.1 hn.2
  ·rw [if_neg hn];exact VD _ _ _ _ w h.1 h.2 hn
 ·rw [if_neg (by simpa using h)];exact Yu _ _ _ _ w h
end Go.Proofs.aU
namespace Go.Proofs.aQ
open Go Go.RowKit Go.SW Go.Num Go.Mem Go.Proofs Go.gD Go.Fx
def got (E:Int) (r:(Int × Int) × Int):(Int × Int) × Int:=if E=0 then (if r.2=0 then (r.1,0) else ((0,0),r.2)) else ((0,0),E)
theorem aG1 (x y:Int) (b:Nat) (w:World) (X:aA w b #[Z I 0] 100) :
  Calls Tryz.prog 56 #[aB (some ⟨b,0,none⟩),au #[Z I x,Z I y],Z I 0] w (fun e w'=>e= aj (au #[Z I x,Z I y])∧om [b] w w'∧aA w' b #[Z I 0] 100):=by
 refine Fx.door Tryz.func56 rfl (.one X) ?_;refine Fx.new [] 4 #[Z I x,Z I y] 40 [] [] fun gM=>?_;refine Fx.aY [] 6 40 [] [] fun gI=>?_;exact Fx.iC 2 gI [3,1,3,3,2,4,5] [(0,#[Z I 0]),(2,#[Z I x,Z I y])] (fun W M=>⟨rfl,M.vO,M.box (b:=b) 0⟩)
theorem aG0 (x y k:Int) (hk:k≠0) (b:Nat) (w:World) (X:aA w b #[Z I 0] 100) :
  Calls Tryz.prog 56 #[aB (some ⟨b,0,none⟩),au #[Z I x,Z I y],Z I k] w (fun e w'=>e= aj (au #[Z I 0,Z I 0])∧om [b] w w'∧aA w' b #[Z I k] 100):=by
 refine Fx.door Tryz.func56 rfl (.one X) ?_;refine Fx.new [] 4 #[Z I x,Z I y] 40 [] [] fun gM=>?_;refine Fx.aY [] 6 40 [] [] fun gI=>?_;refine Fx.part 29 [3,1,3,3] [(20,ak (!(k == 0)))] [(0,#[Z I k])] ?_;refine Fx.o7 true (by simp [hk]) ?_;exact Fx.iC 2 gI [1,5] [(2,#[Z I 0,Z I 0])] (fun W M=>⟨rfl,M.vO,M.box (b:=b) 0⟩)
theorem aF9 (x y k E:Int) (hk:E≠0) (b:Nat) (w:World) (X:aA w b #[Z I E] 100) :
  Calls Tryz.prog 56 #[aB (some ⟨b,0,none⟩),au #[Z I x,Z I y],Z I k] w (fun e w'=>e= aj (au #[Z I 0,Z I 0])∧om [b] w w'∧aA w' b #[Z I E] 100):=by
 refine Fx.door Tryz.func56 rfl (.one X) ?_;refine Fx.new [] 4 #[Z I x,Z I y] 40 [] [] fun gM=>?_;refine Fx.aY [] 6 40 [] [] fun gI=>?_;refine Fx.part 10 [3] [(11,ak (E == 0))] [] ?_;refine Fx.o7 false (by simp [hk]) ?_;refine Fx.part 13 [2,3] [(20,ak (!(E == 0)))] [] ?_;refine Fx.o7 true (by simp [hk]) ?_;exact Fx.iC 2 gI [1,5] [(2,#[Z I 0,Z I 0])] (fun W M=>⟨rfl,M.vO,M.box (b:=b) 0⟩)
theorem KH {x y k E u v F:Int} (h:got E ((x,y),k)=((u,v),F)) {b:Nat} {w:World} (X:aA w b #[Z I E] 100) :
  Calls Tryz.prog 56 #[aB (some ⟨b,0,none⟩),au #[Z I x,Z I y],Z I k] w (fun e w'=>e= aj (au #[Z I u,Z I v])∧om [b] w w'∧aA w' b #[Z I F] 100):=by
 unfold got at h;split at h
 ·rename_i h0;subst h0;split at h
  ·rename_i h1;cases h
   have h1':k=0:=h1;subst h1';exact aG1 x y b w X
  ·rename_i h1;cases h
   exact aG0 x y k h1 b w X
 ·rename_i h0;cases h
  exact aF9 x y k E h0 b w X
theorem yN {E p q r s u v F:Int} (h:got E (dH.yA (p,q) (r,s))=((u,v),F)) {b:Nat} {w:World} (X:aA w b #[Z I E] 100) :
  Calls Tryz.prog 78 #[aB (some ⟨b,0,none⟩),au #[Z I p,Z I q],au #[Z I r,Z I s]] w (fun e w'=>e= aj (au #[Z I u,Z I v])∧om [b] w w'∧aA w' b #[Z I F] 100):=by
 obtain ⟨⟨⟨x,y⟩,k⟩,hr⟩:∃ z,dH.yA (p,q) (r,s)=z:=⟨_,rfl⟩;have C:=fun W=>aU.sI (p,q) (r,s) W;rw [hr] at C h;refine Fx.door Tryz.func78 rfl (.one X) ?_;refine Fx.new [] 4 #[Z I p,Z I q] 40 [] [] fun gM=>?_;refine Fx.new [] 5 #[Z I r,Z I s] 40 [] [] fun gI=>?_;refine Fx.aY [] 6 40 [] [] fun gH=>?_;refine Fx.dD [4,5] 12 [] [] C ?_;refine Fx.aY [] 7 40 [(13,au #[Z I x,Z I y]),(14,Z I k)] [] fun oP=>?_;refine Fx.iI [7,7] 18 0 [] [(4,#[Z I x,Z I y])] (fun W M=>KH h (M.box (b:=b) 0)) ?_;exact Fx.iC 3 gH [6] [(3,#[Z I u,Z I v])] (fun W M=>⟨rfl,M.vO,M.box (b:=b) 0⟩)
theorem Dx {E u v F:Int} {s t:ByteArray} (h:got E (dH.jl ⟨s,t⟩)=((u,v),F)) (hf:aH.Fits ⟨s,t⟩) {b:Nat} {w:World} (X:aA w b #[Z I E] 100) :
  Calls Tryz.prog 67 #[aB (some ⟨b,0,none⟩),au #[O s,O t]] w (fun e w'=>e= aj (au #[Z I u,Z I v])∧om [b] w w'∧aA w' b #[Z I F] 100):=by
 obtain ⟨⟨⟨x,y⟩,k⟩,hr⟩:∃ z,dH.jl ⟨s,t⟩=z:=⟨_,rfl⟩;have C:=fun W=>aU.zI ⟨s,t⟩ W hf;rw [hr] at C h;refine Fx.door Tryz.func67 rfl (.one X) ?_;refine Fx.new [] 3 #[O s,O t] 32 [] [] fun gM=>?_;refine Fx.aY [] 4 40 [] [] fun gI=>?_;refine Fx.dD [4] 9 [] [] C ?_;refine Fx.aY [] 5 40 [(10,au #[Z I x,Z I y]),(11,Z I k)] [] fun gH=>?_;refine Fx.iI [6,6] 15 0 [] [(3,#[Z I x,Z I y])] (fun W M=>KH h (M.box (b:=b) 0)) ?_;exact Fx.iC 2 gI [5] [(2,#[Z I u,Z I v])] (fun W M=>⟨rfl,M.vO,M.box (b:=b) 0⟩)
end Go.Proofs.aQ
namespace Go.Proofs.aT
open Go Go.RowKit Go.SW Go.Num Go.Mem Go.Proofs Go.Dec Go.gD
theorem oC (n d:Int) (h1: -9223372036854775808≤n) (h2:n≤9223372036854775807) (h3: -9223372036854775808≤d) (h4:d≤9223372036854775807) (w:World) :
  Calls Tryz.prog 40 #[Z I n,Z I d] w (fun e w'=>e= aj (qM n d).1.v∧Below w.heap.size w w'):=by
 have H1:=fun W=>aH.oC n d h1 h2 h3 h4 W;obtain ⟨⟨⟨s1,s2⟩,k⟩,E⟩:∃ y,qM n d=y:=⟨_,rfl⟩;rw [E] at H1 ⊢;refine Fx.door Tryz.func40 rfl (.nil w []) ?_;refine Fx.aY [] 4 32 [] [] fun gM=>?_;refine Fx.dD [] 10 [] [] H1 ?_;refine Fx.aY [] 5 32 [(11,au #[O s1,O s2]),(12,Z I k)] [] fun gI=>?_;exact Fx.iC 0 gM [4,4,3] [(0,#[O s1,O s2]),(1,#[O s1,O s2])] (fun W M=>⟨rfl,M.below⟩)
end Go.Proofs.aT
namespace Go.Proofs.aT
open Go Go.RowKit Go.SW Go.Num Go.Mem Go.Proofs Go.Dec Go.gD Go.Proofs.aH
end Go.Proofs.aT
namespace Go.Proofs.aT
open Go Go.RowKit Go.SW Go.Num Go.Mem Go.Proofs Go.gD Go.Fx Go.Proofs.aH
def zF:Fr:=⟨⟨#[48]⟩,⟨#[49]⟩⟩
theorem aw6:qM 0 1=(zF,0):=by decide+kernel
def iW (E:Int) (r:Fr × Int):Fr × Int:=if E=0 then (if r.2=0 then (r.1,0) else (zF,r.2)) else (zF,E)
theorem gOf (W:World):Calls Tryz.prog 40 #[Z I 0,Z I 1] W (fun e w'=>e= aj (au #[O ⟨#[48]⟩,O ⟨#[49]⟩])∧Below W.heap.size W w'):=by
 have:=oC 0 1 zo zo zo zo W;rw [aw6] at this;exact this
theorem au5 (s t:ByteArray) (b:Nat) (w:World) (X:aA w b #[Z I 0] 130) :
  Calls Tryz.prog 106 #[aB (some ⟨b,0,none⟩),au #[O s,O t],Z I 0] w (fun e w'=>e= aj (au #[O s,O t])∧om [b] w w'∧aA w' b #[Z I 0] 130):=by
 refine Fx.door Tryz.func106 rfl (.one X) ?_;refine Fx.new [] 4 #[O s,O t] 32 [] [] fun gM=>?_;refine Fx.aY [] 6 32 [] [] fun gI=>?_;exact Fx.iC 2 gI [3,1,3,3,2,4,5] [(0,#[Z I 0]),(2,#[O s,O t])] (fun W M=>⟨rfl,M.vO,M.box (b:=b) 0⟩)
theorem au4 (s t:ByteArray) (k:Int) (hk:k≠0) (b:Nat) (w:World) (X:aA w b #[Z I 0] 130) :
  Calls Tryz.prog 106 #[aB (some ⟨b,0,none⟩),au #[O s,O t],Z I k] w (fun e w'=>e= aj (au #[O ⟨#[48]⟩,O ⟨#[49]⟩])∧om [b] w w'∧aA w' b #[Z I k] 130):=by
 refine Fx.door Tryz.func106 rfl (.one X) ?_;refine Fx.new [] 4 #[O s,O t] 32 [] [] fun gM=>?_;refine Fx.aY [] 6 32 [] [] fun gI=>?_;refine Fx.part 29 [3,1,3,3] [(20,ak (!(k == 0)))] [(0,#[Z I k])] ?_;refine Fx.o7 true (by simp [hk]) ?_;refine Fx.call [1] 21 [] [] (fun W M=>gOf _) ?_;exact Fx.iC 2 gI [5] [(2,#[O (⟨#[48]⟩),O (⟨#[49]⟩)])] (fun W M=>⟨rfl,M.vO,M.box (b:=b) 0⟩)
theorem au3 (s t:ByteArray) (k E:Int) (hk:E≠0) (b:Nat) (w:World) (X:aA w b #[Z I E] 130) :
  Calls Tryz.prog 106 #[aB (some ⟨b,0,none⟩),au #[O s,O t],Z I k] w (fun e w'=>e= aj (au #[O ⟨#[48]⟩,O ⟨#[49]⟩])∧om [b] w w'∧aA w' b #[Z I E] 130):=by
 refine Fx.door Tryz.func106 rfl (.one X) ?_;refine Fx.new [] 4 #[O s,O t] 32 [] [] fun gM=>?_;refine Fx.aY [] 6 32 [] [] fun gI=>?_;refine Fx.part 10 [3] [(11,ak (E == 0))] [] ?_;refine Fx.o7 false (by simp [hk]) ?_;refine Fx.part 13 [2,3] [(20,ak (!(E == 0)))] [] ?_;refine Fx.o7 true (by simp [hk]) ?_;refine Fx.call [1] 21 [] [] (fun W M=>gOf _) ?_;exact Fx.iC 2 gI [5] [(2,#[O (⟨#[48]⟩),O (⟨#[49]⟩)])] (fun W M=>⟨rfl,M.vO,M.box (b:=b) 0⟩)
theorem Ih {s t x y:ByteArray} {k E F:Int} (h:iW E (⟨s,t⟩,k)=(⟨x,y⟩,F)) {b:Nat} {w:World} (X:aA w b #[Z I E] 130) :
  Calls Tryz.prog 106 #[aB (some ⟨b,0,none⟩),au #[O s,O t],Z I k] w (fun e w'=>e= aj (au #[O x,O y])∧om [b] w w'∧aA w' b #[Z I F] 130):=by
 unfold iW at h;split at h
 ·rename_i h0;subst h0;split at h
  ·rename_i h1;cases h
   have h1':k=0:=h1;subst h1';exact au5 s t b w X
  ·rename_i h1;cases h
   exact au4 s t k h1 b w X
 ·rename_i h0;cases h
  exact au3 s t k E h0 b w X
theorem PN {E F:Int} {p q r s x y:ByteArray} (h:iW E (qJ ⟨p,q⟩ ⟨r,s⟩)=(⟨x,y⟩,F)) (hf:Fits ⟨p,q⟩) (hg:Fits ⟨r,s⟩) {b:Nat} {w:World} (X:aA w b #[Z I E] 130) :
  Calls Tryz.prog 87 #[aB (some ⟨b,0,none⟩),au #[O p,O q],au #[O r,O s]] w (fun e w'=>e= aj (au #[O x,O y])∧om [b] w w'∧aA w' b #[Z I F] 130):=by
 obtain ⟨⟨⟨u,v⟩,k⟩,hr⟩:∃ z,qJ ⟨p,q⟩ ⟨r,s⟩=z:=⟨_,rfl⟩;have C0:=fun W=>aH.zJ ⟨p,q⟩ ⟨r,s⟩ W hf hg;rw [hr] at C0 h;have C:∀ W,Calls Tryz.prog 170 #[au #[O p,O q],au #[O r,O s]] W (fun e w'=>e= aj (aG #[au #[O u,O v],Z I k])∧Below W.heap.size W w'):=C0;refine Fx.door Tryz.func87 rfl (.one X) ?_;refine Fx.new [] 4 #[O p,O q] 32 [] [] fun gM=>?_;refine Fx.new [] 5 #[O r,O s] 32 [] [] fun gI=>?_;refine Fx.aY [] 6 32 [] [] fun gH=>?_;refine Fx.dD [4,5] 12 [] [] C ?_;refine Fx.aY [] 7 32 [(13,au #[O u,O v]),(14,Z I k)] [] fun oP=>?_;refine Fx.iI [7,7] 18 0 [] [(4,#[O u,O v])] (fun W M=>Ih h (M.box (b:=b) 0)) ?_;exact Fx.iC 3 gH [6] [(3,#[O x,O y])] (fun W M=>⟨rfl,M.vO,M.box (b:=b) 0⟩)
theorem Pq {E F:Int} {p q r s x y:ByteArray} (h:iW E (rJ ⟨p,q⟩ ⟨r,s⟩)=(⟨x,y⟩,F)) (hf:Fits ⟨p,q⟩) (hg:Fits ⟨r,s⟩) {b:Nat} {w:World} (X:aA w b #[Z I E] 130) :
  Calls Tryz.prog 93 #[aB (some ⟨b,0,none⟩),au #[O p,O q],au #[O r,O s]] w (fun e w'=>e= aj (au #[O x,O y])∧om [b] w w'∧aA w' b #[Z I F] 130):=by
 obtain ⟨⟨⟨u,v⟩,k⟩,hr⟩:∃ z,rJ ⟨p,q⟩ ⟨r,s⟩=z:=⟨_,rfl⟩;have C0:=fun W=>aH.Dp ⟨p,q⟩ ⟨r,s⟩ W hf hg;rw [hr] at C0 h;have C:∀ W,Calls Tryz.prog 173 #[au #[O p,O q],au #[O r,O s]] W (fun e w'=>e= aj (aG #[au #[O u,O v],Z I k])∧Below W.heap.size W w'):=C0;refine Fx.door Tryz.func93 rfl (.one X) ?_;refine Fx.new [] 4 #[O p,O q] 32 [] [] fun gM=>?_;refine Fx.new [] 5 #[O r,O s] 32 [] [] fun gI=>?_;refine Fx.aY [] 6 32 [] [] fun gH=>?_;refine Fx.dD [4,5] 12 [] [] C ?_;refine Fx.aY [] 7 32 [(13,au #[O u,O v]),(14,Z I k)] [] fun oP=>?_;refine Fx.iI [7,7] 18 0 [] [(4,#[O u,O v])] (fun W M=>Ih h (M.box (b:=b) 0)) ?_;exact Fx.iC 3 gH [6] [(3,#[O x,O y])] (fun W M=>⟨rfl,M.vO,M.box (b:=b) 0⟩)
theorem FQ {E F:Int} {p q r s x y:ByteArray} (h:iW E (nH ⟨p,q⟩ ⟨r,s⟩)=(⟨x,y⟩,F)) (hf:Fits ⟨p,q⟩) (hg:Fits ⟨r,s⟩) {b:Nat} {w:World} (X:aA w b #[Z I E] 130) :
  Calls Tryz.prog 92 #[aB (some ⟨b,0,none⟩),au #[O p,O q],au #[O r,O s]] w (fun e w'=>e= aj (au #[O x,O y])∧om [b] w w'∧aA w' b #[Z I F] 130):=by
 obtain ⟨⟨⟨u,v⟩,k⟩,hr⟩:∃ z,nH ⟨p,q⟩ ⟨r,s⟩=z:=⟨_,rfl⟩;have C0:=fun W=>aH.Dr ⟨p,q⟩ ⟨r,s⟩ W hf hg;rw [hr] at C0 h;have C:∀ W,Calls Tryz.prog 172 #[au #[O p,O q],au #[O r,O s]] W (fun e w'=>e= aj (aG #[au #[O u,O v],Z I k])∧Below W.heap.size W w'):=C0;refine Fx.door Tryz.func92 rfl (.one X) ?_;refine Fx.new [] 4 #[O p,O q] 32 [] [] fun gM=>?_;refine Fx.new [] 5 #[O r,O s] 32 [] [] fun gI=>?_;refine Fx.aY [] 6 32 [] [] fun gH=>?_;refine Fx.dD [4,5] 12 [] [] C ?_;refine Fx.aY [] 7 32 [(13,au #[O u,O v]),(14,Z I k)] [] fun oP=>?_;refine Fx.iI [7,7] 18 0 [] [(4,#[O u,O v])] (fun W M=>Ih h (M.box (b:=b) 0)) ?_;exact Fx.iC 3 gH [6] [(3,#[O x,O y])] (fun W M=>⟨rfl,M.vO,M.box (b:=b) 0⟩)
theorem yN {E F:Int} {p q r s x y:ByteArray} (h:iW E (nk ⟨p,q⟩ ⟨r,s⟩)=(⟨x,y⟩,F)) (hf:Fits ⟨p,q⟩) (hg:Fits ⟨r,s⟩) {b:Nat} {w:World} (X:aA w b #[Z I E] 130) :
  Calls Tryz.prog 86 #[aB (some ⟨b,0,none⟩),au #[O p,O q],au #[O r,O s]] w (fun e w'=>e= aj (au #[O x,O y])∧om [b] w w'∧aA w' b #[Z I F] 130):=by
 obtain ⟨⟨⟨u,v⟩,k⟩,hr⟩:∃ z,nk ⟨p,q⟩ ⟨r,s⟩=z:=⟨_,rfl⟩;have C0:=fun W=>aH.sI ⟨p,q⟩ ⟨r,s⟩ W hf hg;rw [hr] at C0 h;have C:∀ W,Calls Tryz.prog 55 #[au #[O p,O q],au #[O r,O s]] W (fun e w'=>e= aj (aG #[au #[O u,O v],Z I k])∧Below W.heap.size W w'):=C0;refine Fx.door Tryz.func86 rfl (.one X) ?_;refine Fx.new [] 4 #[O p,O q] 32 [] [] fun gM=>?_;refine Fx.new [] 5 #[O r,O s] 32 [] [] fun gI=>?_;refine Fx.aY [] 6 32 [] [] fun gH=>?_;refine Fx.dD [4,5] 12 [] [] C ?_;refine Fx.aY [] 7 32 [(13,au #[O u,O v]),(14,Z I k)] [] fun oP=>?_;refine Fx.iI [7,7] 18 0 [] [(4,#[O u,O v])] (fun W M=>Ih h (M.box (b:=b) 0)) ?_;exact Fx.iC 3 gH [6] [(3,#[O x,O y])] (fun W M=>⟨rfl,M.vO,M.box (b:=b) 0⟩)
theorem Fu (z:Int):(Lib.itoa z).length=(Lib.decDigits z.natAbs).length+(if z<0 then 1 else 0):=by
 unfold Lib.itoa;split
 ·rfl
 ·rename_i h;rw [show z.natAbs=z.toNat by omega];rfl
theorem JU {q:Rat} (h:xO q=true):Fits (Fr.of q):=by
 unfold xO at h;rw [aK] at h;have h1:=fK.1 h.1;have h2:=fK.1 h.2;have h3:=Fu q.num;have h4:=Fu (q.den:Int);rw [Int.natAbs_natCast] at h4;have h5:(Lib.itoa q.num).length≤601:=by rw [h3];split<;>omega
 have h6:(Lib.itoa (q.den:Int)).length≤601:=by rw [h4];split<;>omega
 exact ⟨by show (Lib.itoa q.num).length≤_;omega,by show (Lib.itoa (q.den:Int)).length≤_;omega⟩
theorem OX (q:Rat):Fits (wr q).1:=by
 unfold wr;split
 ·rename_i hq;exact JU hq
 ·exact ⟨by decide,by decide⟩
theorem nV {E F:Int} {r:Fr × Int} {x:Fr} (hr:Fits r.1) (h:iW E r=(x,F)):Fits x:=by
 have hz:Fits zF:=⟨by decide,by decide⟩;unfold iW at h;split at h
 ·split at h<;>cases h
  ·exact hr
  ·exact hz
 ·cases h;exact hz
theorem XA:Fits Fr.no:=⟨by decide,by decide⟩
theorem JV {f:Rat→Rat→Fr × Int} (hf:∀ p q,Fits (f p q).1) (a b:Fr):Fits (bin f a b).1:=by
 unfold bin;split
 ·exact hf _ _
 ·exact XA
theorem yu (a b:Fr):Fits (qJ a b).1:=JV (fun p q=>OX (p+q)) a b
theorem yt (a b:Fr):Fits (nH a b).1:=JV (fun p q=>OX (p*q)) a b
end Go.Proofs.aT
