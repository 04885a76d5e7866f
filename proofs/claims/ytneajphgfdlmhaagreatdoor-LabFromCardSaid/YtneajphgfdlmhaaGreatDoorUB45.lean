/- Lemmas for the proof. No condition. -/
import Derived.Test.YtneajphgfdlmhaaGreatDoorUB40
set_option linter.unusedVariables false
set_option linter.unusedSimpArgs false
set_option maxRecDepth 100000
set_option maxHeartbeats 16000000
open Go.Ending renaming returned → ah
open Go.IntKind renaming i64 → I
open Go.Value renaming agg → au, bool → ak, int → Z, pointer → aA, slice → aj
open List renaming cons_append → dx, getD_eq_getElem?_getD → cK, getElem_mem → fq, mem_cons → dR, mem_of_mem_take → jI, take_of_length_le → dN, take_succ_eq_append_getElem → fV
open Nat renaming add_sub_cancel → dS, add_zero → fU, le_of_lt → bM, le_refl → aC, lt_of_lt_of_le → aI, lt_or_ge → aR
namespace Go.Proofs.kT
open Go Go.RowKit Go.SW Go.Num Go.Mem Go.Proofs Go.Dec Go.gB Go.Proofs.aH
theorem Pl.kept {l:List TypeId} {w w':World} {v:Value} {z:Int} (h:Pl w v z) (k:Keep l w w') (hT:3∉l):Pl w' v z:=by
 obtain ⟨pa,n,c,h1,h2⟩:=h;exact ⟨pa,n,c,h1,Row.kept h2 k hT⟩
theorem Ra.kept {l:List TypeId} {w w':World} {v:Value} {q:Rat} (h:Ra w v q) (k:Keep l w w') (hT:3∉l):Ra w' v q:=by
 obtain ⟨bn,pn,ln,cn,bd,pd,ld,cd,e,h1,h2⟩:=h;exact ⟨bn,pn,ln,cn,bd,pd,ld,cd,e,Pl.kept h1 k hT,Pl.kept h2 k hT⟩
def Xx:Rl Rat:=fun w q c=>∃ bn pn ln cn bd pd ld cd,c=[ak bn,aj pn ln cn,ak bd,aj pd ld cd]∧Ra w (au #[ak bn,aj pn ln cn,ak bd,aj pd ld cd]) q
theorem Xx.stay {m:List TypeId} (h:3∉m):Bv m Xx:=fun w w' a c k hr=>by
 obtain ⟨bn,pn,ln,cn,bd,pd,ld,cd,e,h1⟩:=hr;exact ⟨bn,pn,ln,cn,bd,pd,ld,cd,e,Ra.kept h1 k h⟩
def EO (w:World) (v:Value) (qs:List Rat):Prop:=Qi w 163 4 Xx v qs
theorem EO.later {w w':World} {v:Value} {qs:List Rat} (h:EO w v qs) (hb:Below w.heap.size w w'):EO w' v qs:=Qi.later h hb (Xx.stay zi)
theorem ai4:(Tryz.prog.info? 163).map (fun i=>(i.zero,i.size,i.bytes))=some (some (.agg #[ak false,aj none 0 0,ak false,aj none 0 0]),4,64):=by kernel_rfl
theorem EO.at {w:World} {v:Value} {qs:List Rat} (h:EO w v qs):∃ a cap,v= aj a qs.length cap∧qs.length≤cap∧cap≤9223372036854775807 ∧
  ∀ k (_:k<qs.length),∃ b off bn pn ln cn bd pd ld cd,a=some ⟨b,off,none⟩∧b<w.heap.size∧w.cell? ⟨b,off+k*4,none⟩=some (.bool bn)∧w.cell? ⟨b,off+k*4+1,none⟩=some (.slice pn ln cn)∧w.cell? ⟨b,off+k*4+2,none⟩=some (.bool bd)∧w.cell? ⟨b,off+k*4+3,none⟩=some (.slice pd ld cd) ∧
   Ra w (au #[ak bn,aj pn ln cn,ak bd,aj pd ld cd]) qs[k]:=by
 obtain ⟨a,cap,h1,h2,h3,h4⟩:=Qi.read h;refine ⟨a,cap,h1,h2,h3,fun k hk=>?_⟩;obtain ⟨b,off,c,k1,k2,⟨bn,pn,ln,cn,bd,pd,ld,cd,rfl,k3⟩, -, k5⟩:=h4 k hk;exact ⟨b,off,bn,pn,ln,cn,bd,pd,ld,cd,k1,k2,k5 0 zo,k5 1 zo,k5 2 zo,k5 3 zo,k3⟩
end Go.Proofs.kT
namespace Go.Proofs.aS
open Go Go.RowKit Go.SW Go.Num Go.Mem Go.Proofs Go.Dec Go.gB Go.Proofs.aW Go.Proofs.aH Go.Proofs.aF Go.Proofs.kT
theorem R7 (p x:Rat):∀ l:List Rat,jJ p (l++[x])=if x<jJ p l then x else jJ p l:=by
 intro l
 induction l generalizing p with
 | nil=>rfl
 | cons y l ih=>simp only [dx,jJ];exact ih _
theorem Nn (p x:Rat):∀ l:List Rat,gW p (l++[x])=if gW p l<x then x else gW p l:=by
 intro l
 induction l generalizing p with
 | nil=>rfl
 | cons y l ih=>simp only [dx,gW];exact ih _
theorem VO (p:Rat):∀ l:List Rat,jJ p l∈p::l:=by
 intro l
 induction l generalizing p with
 | nil=>simp [jJ]
 | cons y l ih =>
  unfold jJ;have:=ih (if y<p then y else p);split at this<;>split<;>simp_all<;>grind
theorem Sk (p:Rat):∀ l:List Rat,gW p l∈p::l:=by
 intro l
 induction l generalizing p with
 | nil=>simp [gW]
 | cons y l ih =>
  unfold gW;have:=ih (if p<y then y else p);split at this<;>split<;>simp_all<;>grind
theorem ae3 {P:Program} {c:Code} {Q:Exit→Act→World→Prop} {a:Act} {w:World} (F:Act→Nat→Nat→Act) (R:Nat→Nat→World→Prop) (h:c.wp P (fun e a' w'=>e= .normal∧∃ x y,a'=F a x y∧R x y w') a w) (k:∀ x y w',R x y w'→Q .normal (F a x y) w'):c.wp P Q a w :=
 Code.wp_mono (fun e a' w' ⟨h1,x,y,h2,h3⟩=>by
  subst h1 h2;exact k _ _ _ h3) h
def Hold (w wr:World) (b:Nat) (q:Rat):Prop:=∃ bn pn ln cn bd pd ld cd,aB wr b #[ak bn,aj pn ln cn,ak bd,aj pd ld cd] 163∧Ra w (au #[ak bn,aj pn ln cn,ak bd,aj pd ld cd]) q
theorem ED (v:Value) (p:Rat) (l:List Rat) (n1:Nat) (w:World) (h:EO w v (p::l)) (hn:l.length+1=n1) (hn2:n1≤1000) (hs:∀ q∈p::l,jy 30 q) :
  Calls Tryz.prog 217 #[v] w (fun e w'=>e= ah (dZ (jQ (jJ p l) (gW p l)))∧Below w.heap.size w w'):=by
 obtain ⟨a,cap,rfl, -, hc1,hread⟩:=EO.at h
 have H:Hid (∀ k,k<n1→∃ b off bn pn ln cn bd pd ld cd,a=some ⟨b,off,none⟩∧b<w.heap.size∧w.cell? ⟨b,off+k*4,none⟩=some (.bool bn)∧w.cell? ⟨b,off+k*4+1,none⟩=some (.slice pn ln cn)∧w.cell? ⟨b,off+k*4+2,none⟩=some (.bool bd)∧w.cell? ⟨b,off+k*4+3,none⟩=some (.slice pd ld cd) ∧
   Ra w (au #[ak bn,aj pn ln cn,ak bd,aj pd ld cd]) ((p::l).getD k 0)):=zh fun k hk=>by
  have hk2:k<(p::l).length:=by simp;omega
  have:=hread k hk2;rw [show (p::l)[k]=(p::l).getD k 0 by rw [cK,List.getElem?_eq_getElem hk2];rfl] at this;exact this
 have SZ:Hid (∀ k,k<n1→jy 30 ((p::l).getD k 0)):=zh fun k hk=>by
  have hk2:k<(p::l).length:=by simp;omega
  rw [show (p::l).getD k 0=(p::l)[k] by rw [cK,List.getElem?_eq_getElem hk2];rfl];exact hs _ (fq hk2)
 have SL:Hid (∀ k,jy 30 (jJ p (l.take k))):=zh fun k=>hs _ (by
  have:=VO p (l.take k);simp only [dR] at this ⊢;exact this.imp id (fun h=>jI h))
 have SH:Hid (∀ k,jy 30 (gW p (l.take k))):=zh fun k=>hs _ (by
  have:=Sk p (l.take k);simp only [dR] at this ⊢;exact this.imp id (fun h=>jI h))
 have LS:Hid (∀ k,k+1<n1→jJ p (l.take (k+1))=if (p::l).getD (k+1) 0<jJ p (l.take k) then (p::l).getD (k+1) 0 else jJ p (l.take k)):=zh fun k hk=>by
  have hk2:k<l.length:=by omega
  rw [fV hk2,R7];simp [hk2]
 have HS:Hid (∀ k,k+1<n1→gW p (l.take (k+1))=if gW p (l.take k)<(p::l).getD (k+1) 0 then (p::l).getD (k+1) 0 else gW p (l.take k)):=zh fun k hk=>by
  have hk2:k<l.length:=by omega
  rw [fV hk2,Nn];simp [hk2]
 have HE:Hid (l.take (n1 - 1)=l):=zh (dN zo);have h0:0<n1:=by omega
 have e0:(p::l).length=n1:=by simp [hn]
 rw [e0];have TG:=zh (fun v v' W (h:Ra W v (jJ p l)) (h':Ra W v' (gW p l))=>zw v v' _ _ W h h' (by have:=SL.out (n1 - 1);rw [HE.out] at this;exact this.mono zo) (by have:=SH.out (n1 - 1);rw [HE.out] at this;exact this.mono zo));obtain ⟨e1,e2,ek,ex⟩:=sF (jQ (jJ p l) (gW p l));rw [ex] at TG ⊢;unfold dZ at TG ⊢;have G0:Hid ((p::l).getD 0 0=p):=zh rfl;obtain ⟨g,Eg⟩:∃ g:Nat→Rat,g=fun k=>(p::l).getD k 0:=⟨_,rfl⟩;have eg:∀ k,(p::l).getD k 0=g k:=fun k=>by rw [Eg]
 simp only [eg] at H SZ LS HS G0;obtain ⟨b,off,bn,pn,ln,cn,bd,pd,ld,cd,rfl,hbl,k1,k2,k3,k4,hra⟩:=H.out 0 h0;rw [Nat.zero_mul,fU] at k1 k2 k3 k4;rw [G0.out] at hra;have R0:=zh hra;clear hread hs h ex e0 hn eg Eg G0 hra;go_enter Tryz.func217,Tryz.ntmps217
 go_wp2_with fail
 obtain ⟨u0,EW,hz,HR⟩:=zD w #[Z I 0,Z I 0] 40;rw [EW];have hlr:=HR.out.lt;have d1:=(hz.cell (p:=⟨b,off,none⟩) hbl).trans k1;have d2:=(hz.cell (p:=⟨b,off+1,none⟩) hbl).trans k2;have d3:=(hz.cell (p:=⟨b,off+2,none⟩) hbl).trans k3;have d4:=(hz.cell (p:=⟨b,off+3,none⟩) hbl).trans k4;have l1:b<u0.heap.size:=aI hbl hz.size;clear EW k1 k2 k3 k4
 refine ae3 (fun a q r=>(((((((a.put (some 7) (aj (some ⟨b,off,none⟩) n1 cap)).put (some 8) (aA (some ⟨b,off,none⟩))).put (some 9) (au #[ak bn,aj pn ln cn,ak bd,aj pd ld cd])).put (some 10) (aj (some ⟨b,off,none⟩) n1 cap)).put (some 11) (aA (some ⟨b,off,none⟩))).put (some 12) (au #[ak bn,aj pn ln cn,ak bd,aj pd ld cd])).put (some 4) (aA (some ⟨q,0,none⟩))).put (some 5) (aA (some ⟨r,0,none⟩))) (fun q r W=>w.heap.size<q∧w.heap.size<r∧q≠r∧aB W q #[ak bn,aj pn ln cn,ak bd,aj pd ld cd] 163∧aB W r #[ak bn,aj pn ln cn,ak bd,aj pd ld cd] 163∧aB W w.heap.size #[Z I 0,Z I 0] 40∧Below w.heap.size w W) ?rg ?tl
 case rg =>
  refine af7 zk (Yt 5 8 zd (JE [(.pure,0),(.pure,1),(.read,2),(.pure,3),(.pure,4),(.read,5),(.alloc #[ak false,aj none 0 0,ak false,aj none 0 0] 163,6),(.alloc #[ak false,aj none 0 0,ak false,aj none 0 0] 163,7),(.fin,8),(.fin,9)] zk zR (fun _ _ _ _ _ h=>by cases h.1) (zI _ _ _ _ _ _ _ (Wk.out ?o1))) (JE [(.pure,0),(.pure,1),(.read,2),(.pure,3),(.pure,4),(.alloc #[ak false,aj none 0 0,ak false,aj none 0 0] 163,6),(.alloc #[ak false,aj none 0 0,ak false,aj none 0 0] 163,7),(.fin,8),(.fin,5),(.fin,9)] zk zR (fun _ _ _ _ _ h=>by cases h.1) (zI _ _ _ _ _ _ _ (Wk.out ?o2))))
  case o1 =>
   refine zS ?_;refine xX rfl (fun q wg hbg hq1 hq2 hq3 LC=>?_);go_simp;replace LC:aB wg q #[ak false,aj none 0 0,ak false,aj none 0 0] 163:=LC;refine xX rfl (fun r wk hbk hr1 hr2 hr3 Y9=>?_);go_simp;replace Y9:aB wk r #[ak false,aj none 0 0,ak false,aj none 0 0] 163:=Y9;refine zH [_,_] rfl (fun wh LH=>?_);have hne:q≠r:=by simp at hr3;omega
   have hne2:r≠q:=fun e=>hne e.symm;have hd:Below u0.heap.size u0 wh:=Bt (Bt (Bt aJ hbg) hbk) LH;have hL:=(LC.later hbk).later LH;have hH:=Y9.later LH;have LG:w.heap.size<q:=by omega
   have hgr:w.heap.size<r:=by omega
   have nq:w.heap.size≠q:=by omega
   have nr:w.heap.size≠r:=by omega
   have bq:b≠q:=by omega
   have bq2:q≠b:=by omega
   have cL:=hL.cell;have fL:=hL.free;have cH:=hH.cell;have fH:=hH.free;have d5:=(hd.cell (p:=⟨b,off,none⟩) l1).trans d1;have d6:=(hd.cell (p:=⟨b,off+1,none⟩) l1).trans d2;have d7:=(hd.cell (p:=⟨b,off+2,none⟩) l1).trans d3;have d8:=(hd.cell (p:=⟨b,off+3,none⟩) l1).trans d4;have l2:b<wh.heap.size:=aI l1 hd.size;clear d1 d2 d3 d4 LC Y9 hbg hbk LH;go_wp2_with fail
   refine ⟨q,r,?_,LG,hgr,hne,
    (((((((((hL.set 0 (ak bn)).set 1 (aj pn ln cn)).set 2 (ak bd)).set 3 (aj pd ld cd)).setOther (a:=⟨r,0,none⟩) (ak bn) hne).setOther (a:=⟨r,1,none⟩) (aj pn ln cn) hne).setOther (a:=⟨r,2,none⟩) (ak bd) hne).setOther (a:=⟨r,3,none⟩) (aj pd ld cd) hne)),
    (((((((((hH.setOther (a:=⟨q,0,none⟩) (ak bn) hne2).setOther (a:=⟨q,1,none⟩) (aj pn ln cn) hne2).setOther (a:=⟨q,2,none⟩) (ak bd) hne2).setOther (a:=⟨q,3,none⟩) (aj pd ld cd) hne2).set 0 (ak bn)).set 1 (aj pn ln cn)).set 2 (ak bd)).set 3 (aj pd ld cd))),
    ((((((((HR.out.later hd).setOther (a:=⟨q,0,none⟩) (ak bn) nq).setOther (a:=⟨q,1,none⟩) (aj pn ln cn) nq).setOther (a:=⟨q,2,none⟩) (ak bd) nq).setOther (a:=⟨q,3,none⟩) (aj pd ld cd) nq).setOther (a:=⟨r,0,none⟩) (ak bn) nr).setOther (a:=⟨r,1,none⟩) (aj pn ln cn) nr).setOther (a:=⟨r,2,none⟩) (ak bd) nr).setOther (a:=⟨r,3,none⟩) (aj pd ld cd) nr,
    ((((((((Bt hz hd).setCell (p:=⟨q,0,none⟩) (bM LG) (ak bn)).setCell (p:=⟨q,1,none⟩) (bM LG) (aj pn ln cn)).setCell (p:=⟨q,2,none⟩) (bM LG) (ak bd)).setCell (p:=⟨q,3,none⟩) (bM LG) (aj pd ld cd)).setCell (p:=⟨r,0,none⟩) (bM hgr) (ak bn)).setCell (p:=⟨r,1,none⟩) (bM hgr) (aj pn ln cn)).setCell (p:=⟨r,2,none⟩) (bM hgr) (ak bd)).setCell (p:=⟨r,3,none⟩) (bM hgr) (aj pd ld cd)⟩
   exact ⟨rfl,rfl⟩
  case o2 =>
   refine zS ?_;refine xX rfl (fun q wg hbg hq1 hq2 hq3 LC=>?_);go_simp;replace LC:aB wg q #[ak false,aj none 0 0,ak false,aj none 0 0] 163:=LC;refine xX rfl (fun r wk hbk hr1 hr2 hr3 Y9=>?_);go_simp;replace Y9:aB wk r #[ak false,aj none 0 0,ak false,aj none 0 0] 163:=Y9;refine zH [_,_,_] rfl (fun wh LH=>?_);have hne:q≠r:=by simp at hr3;omega
   have hne2:r≠q:=fun e=>hne e.symm;have hd:Below u0.heap.size u0 wh:=Bt (Bt (Bt aJ hbg) hbk) LH;have hL:=(LC.later hbk).later LH;have hH:=Y9.later LH;have LG:w.heap.size<q:=by omega
   have hgr:w.heap.size<r:=by omega
   have nq:w.heap.size≠q:=by omega
   have nr:w.heap.size≠r:=by omega
   have bq:b≠q:=by omega
   have bq2:q≠b:=by omega
   have cL:=hL.cell;have fL:=hL.free;have cH:=hH.cell;have fH:=hH.free;have d5:=(hd.cell (p:=⟨b,off,none⟩) l1).trans d1;have d6:=(hd.cell (p:=⟨b,off+1,none⟩) l1).trans d2;have d7:=(hd.cell (p:=⟨b,off+2,none⟩) l1).trans d3;have d8:=(hd.cell (p:=⟨b,off+3,none⟩) l1).trans d4;have l2:b<wh.heap.size:=aI l1 hd.size;clear d1 d2 d3 d4 LC Y9 hbg hbk LH;go_wp2_with fail
   refine ⟨q,r,?_,LG,hgr,hne,
    (((((((((hL.set 0 (ak bn)).set 1 (aj pn ln cn)).set 2 (ak bd)).set 3 (aj pd ld cd)).setOther (a:=⟨r,0,none⟩) (ak bn) hne).setOther (a:=⟨r,1,none⟩) (aj pn ln cn) hne).setOther (a:=⟨r,2,none⟩) (ak bd) hne).setOther (a:=⟨r,3,none⟩) (aj pd ld cd) hne)),
    (((((((((hH.setOther (a:=⟨q,0,none⟩) (ak bn) hne2).setOther (a:=⟨q,1,none⟩) (aj pn ln cn) hne2).setOther (a:=⟨q,2,none⟩) (ak bd) hne2).setOther (a:=⟨q,3,none⟩) (aj pd ld cd) hne2).set 0 (ak bn)).set 1 (aj pn ln cn)).set 2 (ak bd)).set 3 (aj pd ld cd))),
    ((((((((HR.out.later hd).setOther (a:=⟨q,0,none⟩) (ak bn) nq).setOther (a:=⟨q,1,none⟩) (aj pn ln cn) nq).setOther (a:=⟨q,2,none⟩) (ak bd) nq).setOther (a:=⟨q,3,none⟩) (aj pd ld cd) nq).setOther (a:=⟨r,0,none⟩) (ak bn) nr).setOther (a:=⟨r,1,none⟩) (aj pn ln cn) nr).setOther (a:=⟨r,2,none⟩) (ak bd) nr).setOther (a:=⟨r,3,none⟩) (aj pd ld cd) nr,
    ((((((((Bt hz hd).setCell (p:=⟨q,0,none⟩) (bM LG) (ak bn)).setCell (p:=⟨q,1,none⟩) (bM LG) (aj pn ln cn)).setCell (p:=⟨q,2,none⟩) (bM LG) (ak bd)).setCell (p:=⟨q,3,none⟩) (bM LG) (aj pd ld cd)).setCell (p:=⟨r,0,none⟩) (bM hgr) (ak bn)).setCell (p:=⟨r,1,none⟩) (bM hgr) (aj pn ln cn)).setCell (p:=⟨r,2,none⟩) (bM hgr) (ak bd)).setCell (p:=⟨r,3,none⟩) (bM hgr) (aj pd ld cd)⟩
   exact ⟨rfl,rfl⟩
 case tl =>
  intro q r W9 ⟨LG,hgr,hne,g1,g2,g3,g4⟩;have hne2:r≠q:=fun e=>hne e.symm;have nq:w.heap.size≠q:=by omega
  have nr:w.heap.size≠r:=by omega
  have HLO:Hid (Hold w W9 q (jJ p (l.take 0))):=zh ⟨_,_,_,_,_,_,_,_,g1,R0.out⟩;have HHI:Hid (Hold w W9 r (gW p (l.take 0))):=zh ⟨_,_,_,_,_,_,_,_,g2,R0.out⟩;have HB0:=zh g4;replace HR:=zh g3;clear g1 g2 g3 g4 hz l1 hlr hbl R0 d1 d2 d3 d4;go_wp2_with fail
  go_loopw [6] (fun iv wr=>∃ m:Nat,iv= Z I (m:Int)∧1≤m∧m≤n1∧Hid (Below w.heap.size w wr)∧Hid (Hold w wr q (jJ p (l.take (m - 1))))∧Hid (Hold w wr r (gW p (l.take (m - 1))))∧Hid (aB wr w.heap.size #[Z I 0,Z I 0] 40)) (fun iv _=>n1 - (intOf iv).toNat)
  case atStart=>exact ⟨1,rfl,by omega,by omega,HB0,HLO,HHI,HR⟩
  case round =>
   obtain ⟨m,rfl,hm1,hm2,HB,HL,HH,HQ⟩:=hrel;clear HB0 HLO HHI HR
   rcases aR m n1 with hlt|hge
   ·obtain ⟨b2,off2,xn,Jb,Jd,Jf,xd,Jc,Je,Jg,e,hbl,k1,k2,k3,k4,hra⟩:=H.out m hlt;simp only [Option.some.injEq,Addr.mk.injEq,and_true] at e;obtain ⟨rfl,rfl⟩:=e;have hstep:=LS.out (m - 1) zo;have hstep2:=HS.out (m - 1) zo;rw [show m - 1+1=m by omega] at hstep hstep2;have sx:=SZ.out m hlt;have sl:=SL.out (m - 1);have sh:=SH.out (m - 1);obtain ⟨yn,ypn,yln,ycn,yd,ypd,yld,ycd,Wv,hlo⟩:=HL.out;obtain ⟨zn,zpn,zln,zcn,zd,zpd,zld,zcd,LH,hhi⟩:=HH.out;have RX:=zh hra;have RL:=zh hlo;have RH:=zh hhi;have BL:=zh Wv;have BH:=zh LH;have O1:=zh (fun v v' W (h:Ra W v (g m)) (h':Ra W v' (jJ p (l.take (m - 1))))=>aH.lS v v' _ _ W h h' (sx.mono zo) (sl.mono zo));have O2:=zh (fun v v' W (h:Ra W v (g m)) (h':Ra W v' (gW p (l.take (m - 1))))=>aH.lS v v' _ _ W h h' (sx.mono zo) (sh.mono zo));have KC:=zh (And.intro k1 (And.intro k2 (And.intro k3 k4)))
    clear hra hlo hhi Wv LH sx sl sh k1 k2 k3 k4;generalize g m=X at *;generalize jJ p (l.take (m - 1))=LO at *;generalize gW p (l.take (m - 1))=HI at *;unfold qL at O1 O2;have HM:=zh (And.intro hstep hstep2);clear hstep hstep2 HL HH
    by_cases h1:X<LO
    ·rw [if_pos h1] at O1;go_wp2_with fail
     have cBL:=BL.out.cell;have lBL:=BL.out.lt;have hbw:=HB.out;have d1:=(hbw.cell (p:=⟨b,off+m*4,none⟩) hbl).trans KC.out.1;have d2:=(hbw.cell (p:=⟨b,off+m*4+1,none⟩) hbl).trans KC.out.2.1;have d3:=(hbw.cell (p:=⟨b,off+m*4+2,none⟩) hbl).trans KC.out.2.2.1;have d4:=(hbw.cell (p:=⟨b,off+m*4+3,none⟩) hbl).trans KC.out.2.2.2;have l1:b<wr.heap.size:=aI hbl hbw.size;refine aO [(.pure,0),(.pure,1),(.pure,2),(.read,3),(.read,4),(.ext,5),(.pure,6)] zk zk zR zP ?_;refine Wk.out ?_;refine zS ?_;clear cBL lBL;clear hbw d1 d2 d3 d4 l1;refine jK rfl rfl (fun we hbe J hJ=>?_);go_simp;have hx:Below wr.heap.size wr we:=aJ;refine (O1.out _ _ _ (RX.out.later (Bt HB.out hx)) (RL.out.later (Bt HB.out hx))).mono ?_;rintro e wy ⟨rfl,h⟩;have hy:=Bt hx h;refine hJ _ _ h ?_;clear hJ J hbe hx h;refine zS ?_;refine sN (fun wa hbf=>?_)
     have hy2:Below wr.heap.size wr wa:=Bt hy aJ;replace BL:=zh (BL.out.later hy2);replace BH:=zh (BH.out.later hy2);replace HQ:=zh (HQ.out.later hy2);replace HB:=zh (Bt HB.out hy2);clear hy hy2 hbf;have cBL:=BL.out.cell;have fBL:=BL.out.free;have hbw:=HB.out;have d1:=(hbw.cell (p:=⟨b,off+m*4,none⟩) hbl).trans KC.out.1;have d2:=(hbw.cell (p:=⟨b,off+m*4+1,none⟩) hbl).trans KC.out.2.1;have d3:=(hbw.cell (p:=⟨b,off+m*4+2,none⟩) hbl).trans KC.out.2.2.1;have d4:=(hbw.cell (p:=⟨b,off+m*4+3,none⟩) hbl).trans KC.out.2.2.2;have l1:b<wa.heap.size:=aI hbl hbw.size;go_wp2_with fail
     clear cBL fBL;clear hbw d1 d2 d3 d4 l1;obtain ⟨wb,EW⟩:∃ y,(((wa.setCell ⟨q,0,none⟩ (ak xn)).setCell ⟨q,1,none⟩ (aj Jb Jd Jf)).setCell ⟨q,2,none⟩ (ak xd)).setCell ⟨q,3,none⟩ (aj Jc Je Jg)=y:=⟨_,rfl⟩;have t:=(((BL.out.set 0 (ak xn)).set 1 (aj Jb Jd Jf)).set 2 (ak xd)).set 3 (aj Jc Je Jg);rw [EW] at t;replace BL:Hid (aB wb q #[ak xn,aj Jb Jd Jf,ak xd,aj Jc Je Jg] 163):=zh t;clear t;have t:=(((BH.out.setOther (a:=⟨q,0,none⟩) (ak xn) hne2).setOther (a:=⟨q,1,none⟩) (aj Jb Jd Jf) hne2).setOther (a:=⟨q,2,none⟩) (ak xd) hne2).setOther (a:=⟨q,3,none⟩) (aj Jc Je Jg) hne2;rw [EW] at t;replace BH:=zh t;clear t;have t:=(((HQ.out.setOther (a:=⟨q,0,none⟩) (ak xn) nq).setOther (a:=⟨q,1,none⟩) (aj Jb Jd Jf) nq).setOther (a:=⟨q,2,none⟩) (ak xd) nq).setOther (a:=⟨q,3,none⟩) (aj Jc Je Jg) nq;rw [EW] at t
     replace HQ:=zh t;clear t;have t:=(((HB.out.setCell (p:=⟨q,0,none⟩) (bM LG) (ak xn)).setCell (p:=⟨q,1,none⟩) (bM LG) (aj Jb Jd Jf)).setCell (p:=⟨q,2,none⟩) (bM LG) (ak xd)).setCell (p:=⟨q,3,none⟩) (bM LG) (aj Jc Je Jg);rw [EW] at t;replace HB:=zh t;clear t;rw [EW];clear EW
     by_cases h2:HI<X
     ·rw [if_neg (by grind),if_pos h2] at O2;have Xh:=BH.out.cell;have lBH:=BH.out.lt;have hbw:=HB.out;have d1:=(hbw.cell (p:=⟨b,off+m*4,none⟩) hbl).trans KC.out.1;have d2:=(hbw.cell (p:=⟨b,off+m*4+1,none⟩) hbl).trans KC.out.2.1;have d3:=(hbw.cell (p:=⟨b,off+m*4+2,none⟩) hbl).trans KC.out.2.2.1;have d4:=(hbw.cell (p:=⟨b,off+m*4+3,none⟩) hbl).trans KC.out.2.2.2;have l1:b<wb.heap.size:=aI hbl hbw.size;refine aO [(.pure,0),(.pure,1),(.pure,2),(.read,3),(.read,4),(.ext,5),(.pure,6)] zk zk zR zP ?_;refine Wk.out ?_;refine zS ?_;clear Xh lBH;clear hbw d1 d2 d3 d4 l1;refine jK rfl rfl (fun we hbe J hJ=>?_);go_simp;have hx:Below wb.heap.size wb we:=aJ;refine (O2.out _ _ _ (RX.out.later (Bt HB.out hx)) (RH.out.later (Bt HB.out hx))).mono ?_;rintro e wy ⟨rfl,h⟩;have hy:=Bt hx h;refine hJ _ _ h ?_;clear hJ J hbe hx h;refine zS ?_;refine sN (fun wc hbf=>?_)
      have hy2:Below wb.heap.size wb wc:=Bt hy aJ;replace BL:=zh (BL.out.later hy2);replace BH:=zh (BH.out.later hy2);replace HQ:=zh (HQ.out.later hy2);replace HB:=zh (Bt HB.out hy2);clear hy hy2 hbf;have Xh:=BH.out.cell;have fBH:=BH.out.free;have hbw:=HB.out;have d1:=(hbw.cell (p:=⟨b,off+m*4,none⟩) hbl).trans KC.out.1;have d2:=(hbw.cell (p:=⟨b,off+m*4+1,none⟩) hbl).trans KC.out.2.1;have d3:=(hbw.cell (p:=⟨b,off+m*4+2,none⟩) hbl).trans KC.out.2.2.1;have d4:=(hbw.cell (p:=⟨b,off+m*4+3,none⟩) hbl).trans KC.out.2.2.2;have l1:b<wc.heap.size:=aI hbl hbw.size;go_wp2_with fail
      clear Xh fBH;clear hbw d1 d2 d3 d4 l1;obtain ⟨wd,EW⟩:∃ y,(((wc.setCell ⟨r,0,none⟩ (ak xn)).setCell ⟨r,1,none⟩ (aj Jb Jd Jf)).setCell ⟨r,2,none⟩ (ak xd)).setCell ⟨r,3,none⟩ (aj Jc Je Jg)=y:=⟨_,rfl⟩;have t:=(((BH.out.set 0 (ak xn)).set 1 (aj Jb Jd Jf)).set 2 (ak xd)).set 3 (aj Jc Je Jg);rw [EW] at t;replace BH:Hid (aB wd r #[ak xn,aj Jb Jd Jf,ak xd,aj Jc Je Jg] 163):=zh t;clear t;have t:=(((BL.out.setOther (a:=⟨r,0,none⟩) (ak xn) hne).setOther (a:=⟨r,1,none⟩) (aj Jb Jd Jf) hne).setOther (a:=⟨r,2,none⟩) (ak xd) hne).setOther (a:=⟨r,3,none⟩) (aj Jc Je Jg) hne;rw [EW] at t;replace BL:=zh t;clear t;have t:=(((HQ.out.setOther (a:=⟨r,0,none⟩) (ak xn) nr).setOther (a:=⟨r,1,none⟩) (aj Jb Jd Jf) nr).setOther (a:=⟨r,2,none⟩) (ak xd) nr).setOther (a:=⟨r,3,none⟩) (aj Jc Je Jg) nr;rw [EW] at t
      replace HQ:=zh t;clear t;have t:=(((HB.out.setCell (p:=⟨r,0,none⟩) (bM hgr) (ak xn)).setCell (p:=⟨r,1,none⟩) (bM hgr) (aj Jb Jd Jf)).setCell (p:=⟨r,2,none⟩) (bM hgr) (ak xd)).setCell (p:=⟨r,3,none⟩) (bM hgr) (aj Jc Je Jg);rw [EW] at t;replace HB:=zh t;clear t;rw [EW];clear EW;go_roundw
      case rel=>exact ⟨m+1,by go_num,by omega,by omega,HB,zh (by rw [dS,HM.out.1,if_pos h1];exact ⟨_,_,_,_,_,_,_,_,BL.out,RX.out⟩),zh (by rw [dS,HM.out.2,if_pos h2];exact ⟨_,_,_,_,_,_,_,_,BH.out,RX.out⟩),HQ⟩
      case measure=>simp [intOf]<;>omega
     ·have ho3:∃ o:Int,(if X<HI then (-1:Int) else if HI<X then 1 else 0)=o∧decide (0<o)=false:=⟨_,rfl,by rw [if_neg h2];split<;>rfl⟩;obtain ⟨o2,ho4,ho5⟩:=ho3;rw [ho4] at O2;clear ho4;have Xh:=BH.out.cell;have lBH:=BH.out.lt;have hbw:=HB.out;have d1:=(hbw.cell (p:=⟨b,off+m*4,none⟩) hbl).trans KC.out.1;have d2:=(hbw.cell (p:=⟨b,off+m*4+1,none⟩) hbl).trans KC.out.2.1;have d3:=(hbw.cell (p:=⟨b,off+m*4+2,none⟩) hbl).trans KC.out.2.2.1;have d4:=(hbw.cell (p:=⟨b,off+m*4+3,none⟩) hbl).trans KC.out.2.2.2;have l1:b<wb.heap.size:=aI hbl hbw.size;refine aO [(.pure,0),(.pure,1),(.pure,2),(.read,3),(.read,4),(.ext,5),(.pure,6)] zk zk zR zP ?_;refine Wk.out ?_;refine zS ?_;clear Xh lBH;clear hbw d1 d2 d3 d4 l1;refine jK rfl rfl (fun we hbe J hJ=>?_);go_simp;have hx:Below wb.heap.size wb we:=aJ
      refine (O2.out _ _ _ (RX.out.later (Bt HB.out hx)) (RH.out.later (Bt HB.out hx))).mono ?_;rintro e wy ⟨rfl,h⟩;have hy:=Bt hx h;refine hJ _ _ h ?_;clear hJ J hbe hx h;refine zS ?_;refine sN (fun wc hbf=>?_);have hy2:Below wb.heap.size wb wc:=Bt hy aJ;replace BL:=zh (BL.out.later hy2);replace BH:=zh (BH.out.later hy2);replace HQ:=zh (HQ.out.later hy2);replace HB:=zh (Bt HB.out hy2);clear hy hy2 hbf;go_wp2_with fail
      go_roundw
      case rel=>exact ⟨m+1,by go_num,by omega,by omega,HB,zh (by rw [dS,HM.out.1,if_pos h1];exact ⟨_,_,_,_,_,_,_,_,BL.out,RX.out⟩),zh (by rw [dS,HM.out.2,if_neg h2];exact ⟨_,_,_,_,_,_,_,_,BH.out,RH.out⟩),HQ⟩
      case measure=>simp [intOf]<;>omega
   
    ·rw [if_neg h1] at O1;obtain ⟨o1,ho1,ho2⟩:∃ o:Int,(if LO<X then (1:Int) else 0)=o∧decide (o<0)=false:=⟨_,rfl,by split<;>rfl⟩;rw [ho1] at O1;clear ho1;go_wp2_with fail
     have cBL:=BL.out.cell;have lBL:=BL.out.lt;have hbw:=HB.out;have d1:=(hbw.cell (p:=⟨b,off+m*4,none⟩) hbl).trans KC.out.1;have d2:=(hbw.cell (p:=⟨b,off+m*4+1,none⟩) hbl).trans KC.out.2.1;have d3:=(hbw.cell (p:=⟨b,off+m*4+2,none⟩) hbl).trans KC.out.2.2.1;have d4:=(hbw.cell (p:=⟨b,off+m*4+3,none⟩) hbl).trans KC.out.2.2.2;have l1:b<wr.heap.size:=aI hbl hbw.size;refine aO [(.pure,0),(.pure,1),(.pure,2),(.read,3),(.read,4),(.ext,5),(.pure,6)] zk zk zR zP ?_;refine Wk.out ?_;refine zS ?_;clear cBL lBL;clear hbw d1 d2 d3 d4 l1;refine jK rfl rfl (fun we hbe J hJ=>?_);go_simp;have hx:Below wr.heap.size wr we:=aJ;refine (O1.out _ _ _ (RX.out.later (Bt HB.out hx)) (RL.out.later (Bt HB.out hx))).mono ?_;rintro e wy ⟨rfl,h⟩;have hy:=Bt hx h;refine hJ _ _ h ?_;clear hJ J hbe hx h;refine zS ?_;refine sN (fun wa hbf=>?_)
     have hy2:Below wr.heap.size wr wa:=Bt hy aJ;replace BL:=zh (BL.out.later hy2);replace BH:=zh (BH.out.later hy2);replace HQ:=zh (HQ.out.later hy2);replace HB:=zh (Bt HB.out hy2);clear hy hy2 hbf;go_wp2_with fail
     by_cases h2:HI<X
     ·rw [if_neg (by grind),if_pos h2] at O2;have Xh:=BH.out.cell;have lBH:=BH.out.lt;have hbw:=HB.out;have d1:=(hbw.cell (p:=⟨b,off+m*4,none⟩) hbl).trans KC.out.1;have d2:=(hbw.cell (p:=⟨b,off+m*4+1,none⟩) hbl).trans KC.out.2.1;have d3:=(hbw.cell (p:=⟨b,off+m*4+2,none⟩) hbl).trans KC.out.2.2.1;have d4:=(hbw.cell (p:=⟨b,off+m*4+3,none⟩) hbl).trans KC.out.2.2.2;have l1:b<wa.heap.size:=aI hbl hbw.size;refine aO [(.pure,0),(.pure,1),(.pure,2),(.read,3),(.read,4),(.ext,5),(.pure,6)] zk zk zR zP ?_;refine Wk.out ?_;refine zS ?_;clear Xh lBH;clear hbw d1 d2 d3 d4 l1;refine jK rfl rfl (fun we hbe J hJ=>?_);go_simp;have hx:Below wa.heap.size wa we:=aJ;refine (O2.out _ _ _ (RX.out.later (Bt HB.out hx)) (RH.out.later (Bt HB.out hx))).mono ?_;rintro e wy ⟨rfl,h⟩;have hy:=Bt hx h;refine hJ _ _ h ?_;clear hJ J hbe hx h;refine zS ?_;refine sN (fun wc hbf=>?_)
      have hy2:Below wa.heap.size wa wc:=Bt hy aJ;replace BL:=zh (BL.out.later hy2);replace BH:=zh (BH.out.later hy2);replace HQ:=zh (HQ.out.later hy2);replace HB:=zh (Bt HB.out hy2);clear hy hy2 hbf;have Xh:=BH.out.cell;have fBH:=BH.out.free;have hbw:=HB.out;have d1:=(hbw.cell (p:=⟨b,off+m*4,none⟩) hbl).trans KC.out.1;have d2:=(hbw.cell (p:=⟨b,off+m*4+1,none⟩) hbl).trans KC.out.2.1;have d3:=(hbw.cell (p:=⟨b,off+m*4+2,none⟩) hbl).trans KC.out.2.2.1;have d4:=(hbw.cell (p:=⟨b,off+m*4+3,none⟩) hbl).trans KC.out.2.2.2;have l1:b<wc.heap.size:=aI hbl hbw.size;go_wp2_with fail
      clear Xh fBH;clear hbw d1 d2 d3 d4 l1;obtain ⟨wd,EW⟩:∃ y,(((wc.setCell ⟨r,0,none⟩ (ak xn)).setCell ⟨r,1,none⟩ (aj Jb Jd Jf)).setCell ⟨r,2,none⟩ (ak xd)).setCell ⟨r,3,none⟩ (aj Jc Je Jg)=y:=⟨_,rfl⟩;have t:=(((BH.out.set 0 (ak xn)).set 1 (aj Jb Jd Jf)).set 2 (ak xd)).set 3 (aj Jc Je Jg);rw [EW] at t;replace BH:Hid (aB wd r #[ak xn,aj Jb Jd Jf,ak xd,aj Jc Je Jg] 163):=zh t;clear t;have t:=(((BL.out.setOther (a:=⟨r,0,none⟩) (ak xn) hne).setOther (a:=⟨r,1,none⟩) (aj Jb Jd Jf) hne).setOther (a:=⟨r,2,none⟩) (ak xd) hne).setOther (a:=⟨r,3,none⟩) (aj Jc Je Jg) hne;rw [EW] at t;replace BL:=zh t;clear t;have t:=(((HQ.out.setOther (a:=⟨r,0,none⟩) (ak xn) nr).setOther (a:=⟨r,1,none⟩) (aj Jb Jd Jf) nr).setOther (a:=⟨r,2,none⟩) (ak xd) nr).setOther (a:=⟨r,3,none⟩) (aj Jc Je Jg) nr;rw [EW] at t
      replace HQ:=zh t;clear t;have t:=(((HB.out.setCell (p:=⟨r,0,none⟩) (bM hgr) (ak xn)).setCell (p:=⟨r,1,none⟩) (bM hgr) (aj Jb Jd Jf)).setCell (p:=⟨r,2,none⟩) (bM hgr) (ak xd)).setCell (p:=⟨r,3,none⟩) (bM hgr) (aj Jc Je Jg);rw [EW] at t;replace HB:=zh t;clear t;rw [EW];clear EW;go_roundw
      case rel=>exact ⟨m+1,by go_num,by omega,by omega,HB,zh (by rw [dS,HM.out.1,if_neg h1];exact ⟨_,_,_,_,_,_,_,_,BL.out,RL.out⟩),zh (by rw [dS,HM.out.2,if_pos h2];exact ⟨_,_,_,_,_,_,_,_,BH.out,RX.out⟩),HQ⟩
      case measure=>simp [intOf]<;>omega
     ·have ho3:∃ o:Int,(if X<HI then (-1:Int) else if HI<X then 1 else 0)=o∧decide (0<o)=false:=⟨_,rfl,by rw [if_neg h2];split<;>rfl⟩;obtain ⟨o2,ho4,ho5⟩:=ho3;rw [ho4] at O2;clear ho4;have Xh:=BH.out.cell;have lBH:=BH.out.lt;have hbw:=HB.out;have d1:=(hbw.cell (p:=⟨b,off+m*4,none⟩) hbl).trans KC.out.1;have d2:=(hbw.cell (p:=⟨b,off+m*4+1,none⟩) hbl).trans KC.out.2.1;have d3:=(hbw.cell (p:=⟨b,off+m*4+2,none⟩) hbl).trans KC.out.2.2.1;have d4:=(hbw.cell (p:=⟨b,off+m*4+3,none⟩) hbl).trans KC.out.2.2.2;have l1:b<wa.heap.size:=aI hbl hbw.size;refine aO [(.pure,0),(.pure,1),(.pure,2),(.read,3),(.read,4),(.ext,5),(.pure,6)] zk zk zR zP ?_;refine Wk.out ?_;refine zS ?_;clear Xh lBH;clear hbw d1 d2 d3 d4 l1;refine jK rfl rfl (fun we hbe J hJ=>?_);go_simp;have hx:Below wa.heap.size wa we:=aJ
      refine (O2.out _ _ _ (RX.out.later (Bt HB.out hx)) (RH.out.later (Bt HB.out hx))).mono ?_;rintro e wy ⟨rfl,h⟩;have hy:=Bt hx h;refine hJ _ _ h ?_;clear hJ J hbe hx h;refine zS ?_;refine sN (fun wc hbf=>?_);have hy2:Below wa.heap.size wa wc:=Bt hy aJ;replace BL:=zh (BL.out.later hy2);replace BH:=zh (BH.out.later hy2);replace HQ:=zh (HQ.out.later hy2);replace HB:=zh (Bt HB.out hy2);clear hy hy2 hbf;go_wp2_with fail
      go_roundw
      case rel=>exact ⟨m+1,by go_num,by omega,by omega,HB,zh (by rw [dS,HM.out.1,if_neg h1];exact ⟨_,_,_,_,_,_,_,_,BL.out,RL.out⟩),zh (by rw [dS,HM.out.2,if_neg h2];exact ⟨_,_,_,_,_,_,_,_,BH.out,RH.out⟩),HQ⟩
      case measure=>simp [intOf]<;>omega
   ·obtain rfl:m=n1:=by omega
    rw [HE.out] at HL HH;obtain ⟨yn,ypn,yln,ycn,yd,ypd,yld,ycd,Wv,hlo⟩:=HL.out;obtain ⟨zn,zpn,zln,zcn,zd,zpd,zld,zcd,LH,hhi⟩:=HH.out;have cl:=Wv.cell;have ll:=Wv.lt;have ch:=LH.cell;have lh:=LH.lt;go_wp2_with fail
    refine (TG.out _ _ _ (hlo.later HB.out) (hhi.later HB.out)).mono ?_;rintro e wy ⟨rfl,h⟩;have hr:=HQ.out.later h;have hb:=Bt HB.out h;have cr:=hr.cell;have fr:=hr.free;clear cl ll ch lh Wv LH h;go_wp2_with fail
    refine bK rfl rfl ((hr.set 0 _).set 1 _) Tryz.underlying40 rfl zk ?_;exact ⟨rfl,(hb.setCell (p:=⟨w.heap.size,0,none⟩) (aC _) _).setCell (p:=⟨w.heap.size,1,none⟩) (aC _) _⟩
end Go.Proofs.aS
