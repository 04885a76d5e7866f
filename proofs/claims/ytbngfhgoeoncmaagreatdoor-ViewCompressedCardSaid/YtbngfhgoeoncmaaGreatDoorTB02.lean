/- Lemmas for the proof. No condition. -/
import Derived.Test.YtbngfhgoeoncmaaGreatDoorTB01
set_option linter.unusedVariables false
set_option linter.unusedSimpArgs false
set_option maxRecDepth 100000
set_option maxHeartbeats 16000000
open Array renaming getElem?_eq_none → bq
open Bool renaming and_eq_true → aD, eq_iff_iff → jm, false_eq_true → bK, not_eq_true' → iN
open Go.Value renaming pointer → au
open List renaming all_cons → gK, length_cons → aV, map_cons → bL, map_nil → uG, mem_cons → cK, mem_filter → xC, mem_map → Cn, not_mem_nil → gG
open Nat renaming le_of_not_lt → dL, le_refl → aG, le_trans → ay, lt_of_lt_of_le → aP, strongRecOn → fD
namespace Go.Bv
open Go Go.RowKit Go.SW
structure Ug (N:Nat) (dA:World→World→Prop):Prop where
 refl:∀ w,dA w w
 trans:∀ {a b c:World},dA a b→dA b c→dA a c
 of:∀ {w w':World},Below w.heap.size w w'→dA w w'
 size:∀ {w w':World},dA w w'→w.heap.size≤w'.heap.size
 block:∀ {w w':World},dA w w'→∀ b,N≤b→b<w.heap.size→w'.heap[b]? =w.heap[b]?
section
variable (dA:World→World→Prop) (P:Program) (ops:Array Oper) (Q:Exit→Act→World→Prop)
def walk (N:Nat):List (K × Nat)→List Nat→Act→World→Prop
 | [],_,a,w=>∀ w',Below w.heap.size w w'→Q .normal a w'
 | (k,i)::is,A,a,w =>
  match ops[i]? with
  | none=>False
  | some o =>
   match k with
   | .pure=>if Region.wanted o (yielded ops a.tmps) then ∃ v,(∀ w',(execOp a.eval o).run P w'= .ok (.value v) w')∧walk N is A (a.put o.dst v) w else walk N is A (a.put o.dst undef) w
   | .read=>if Region.wanted o (yielded ops a.tmps) then ∃ v,(∀ w',dA w w'→(execOp a.eval o).run P w'= .ok (.value v) w')∧walk N is A (a.put o.dst v) w else walk N is A (a.put o.dst undef) w
   | .alloc cs T=>∀ b w',Below w.heap.size w w'→N≤b→b<w'.heap.size→b∉A→w'.heap[b]? =some (.cells cs T (0,0))→walk N is (b::A) (a.put o.dst (au (some ⟨b,0,none⟩))) w'
   | .ext=>if Region.wanted o (yielded ops a.tmps) then ∀ w',Below w.heap.size w w'→o.wp P a w' (fun a' w''=>dA w' w''∧walk N is A a' w'') Q else walk N is A (a.put o.dst undef) w
   | .fin=>∀ w',Below w.heap.size w w'→wpOps P ops Q (i::is.map (·.2)) a w'
end
section
variable {dA:World→World→Prop} {P:Program} {ops:Array Oper} {Q:Exit→Act→World→Prop}
theorem nD {N:Nat} (hZ:Ug N dA):∀ (is:List (K × Nat)) (A:List Nat) (a:Act) (w w1:World),Below w.heap.size w w1→walk dA P ops Q N is A a w→walk dA P ops Q N is A a w1
 | [],_,_,_,_,hb,h=>fun w' hw'=>h w' (kH hb hw')
 | (k,i)::is,A,a,w,w1,hb,h=>by
  unfold walk at h ⊢;cases ho:ops[i]? with
  | none=>simp only [ho] at h
  | some o =>
   simp only [ho] at h ⊢;cases k with
   | pure =>
    simp only at h ⊢;split at h
    ·rename_i hw;obtain ⟨v,h1,h2⟩:=h;simp only [hw,if_true];exact ⟨v,h1,nD hZ is _ _ _ _ hb h2⟩
    ·rename_i hw;simp only [hw,if_false,bK];exact nD hZ is _ _ _ _ hb h
   | read =>
    simp only at h ⊢;split at h
    ·rename_i hw;obtain ⟨v,h1,h2⟩:=h;simp only [hw,if_true];exact ⟨v,fun w' hw'=>h1 w' (hZ.trans (hZ.of hb) hw'),nD hZ is _ _ _ _ hb h2⟩
    ·rename_i hw;simp only [hw,if_false,bK];exact nD hZ is _ _ _ _ hb h
   | alloc cs T=>exact fun b w' hw'=>h b w' (kH hb hw')
   | ext =>
    simp only at h ⊢;split at h
    ·rename_i hw;simp only [hw,if_true];exact fun w' hw'=>h w' (kH hb hw')
    ·rename_i hw;simp only [hw,if_false,bK];exact nD hZ is _ _ _ _ hb h
   | fin=>exact fun w' hw'=>h w' (kH hb hw')
def DJ (dA:World→World→Prop) (P:Program) (ops:Array Oper) (u:Bool × Nat) (a:Act) (w:World):Prop :=
 ∃ o,ops[u.2]? =some o∧∃ v,(∀ d,o.dst=some d→d<a.tmps.size→a.tmps[d]? =some v) ∧
  ((Region.wanted o (yielded ops a.tmps)=true∧∀ w',(u.1=false→dA w w')→(execOp a.eval o).run P w'= .ok (.value v) w') ∨
   (Region.wanted o (yielded ops a.tmps)=false∧v=undef))
theorem DJ.put {u:Bool × Nat} {a:Act} {w:World} (hs:Region.noSelect ops=true) (h:DJ dA P ops u a w) {x:Option Tmp} (v:Value)
  (hx:∀ o,ops[u.2]? =some o→∀ d,x=some d→d∉o.looksAt ops∧o.dst≠some d):DJ dA P ops u (a.put x v) w:=by
 obtain ⟨o,ho,v',h1,h2⟩:=h;have hl:∀ t,t∈o.looksAt ops→(a.put x v).tmps[t]? =a.tmps[t]? :=fun t ht=>kU a v fun e=>(hx o ho t e).1 ht;have hsel:=fun cs b=>Region.noSelect_spec hs u.2 o cs b ho;refine ⟨o,ho,v',fun d hd hlt=>?_,?_⟩
 ·rw [kU a v fun e=>(hx o ho d e).2 hd];exact h1 d hd (by rwa [fQ] at hlt)
 ·rw [ni hl,qm hsel hl];exact h2
theorem DJ.later {N:Nat} (hZ:Ug N dA) {u:Bool × Nat} {a:Act} {w w1:World} (h:DJ dA P ops u a w) (hb:u.1=false→dA w w1):DJ dA P ops u a w1:=by
 obtain ⟨o,ho,v',h1,h2⟩:=h;exact ⟨o,ho,v',h1,h2.imp (fun ⟨x,y⟩=>⟨x,fun w' hw'=>y w' fun hu=>hZ.trans (hb hu) (hw' hu)⟩) id⟩
structure Inv (dA:World→World→Prop) (P:Program) (ops:Array Oper) (L:List Nat) (U:List (Bool × Nat)) (E:List (Nat × Nat)) (listed:Array Bool) (s a:Act) (w:World):Prop where
 size:listed.size=ops.size
 Cv:∀ i,i<ops.size→(listed.getD i true=false↔(i∈L∧i∉E.map (·.1))∨i∈U.map (·.2))
 closed:Closed ops listed
 defers:s.defers=a.defers
 JN:s.tmps.size=a.tmps.size
 agree:∀ t,(∀ u∈U,om ops u.2≠some t)→(∀ p∈E,om ops p.1≠some t)→s.tmps[t]? =a.tmps[t]?
 pend:∀ u∈U,DJ dA P ops u a w
 yG:∀ u∈U,um ops u.2=true
 uu:∀ u∈U,∀ v∈U,u.2≠v.2→compat ops u.2 v.2
 ue:∀ u∈U,∀ p∈E,fwd ops u.2 p.1=true
theorem wH {N:Nat} (hZ:Ug N dA) {L:List Nat} {U:List (Bool × Nat)} {E:List (Nat × Nat)} {listed:Array Bool} {s a:Act} {w:World} (hs:Region.noSelect ops=true) (aX:Inv dA P ops L U E listed s a w) {r:Nat}
  (hr:r∈Region.ready .any ops listed) (hU:r∈U.map (·.2)) {K:Act→World→Prop}
  (hL:r∉L∨r∈E.map (·.1))
  (hK:∀ v,Inv dA P ops L (U.filter (fun u=>u.2 != r)) E (listed.setIfInBounds r true) (s.put (om ops r) v) a w→K (s.put (om ops r) v) w):wpOp P ops Q r K s w:=by
 obtain ⟨u,hu,rfl⟩:=List.mem_map.1 hU;obtain ⟨o,ho,hun,hall⟩:=fZ hr;obtain ⟨o',ho',v,hv,hrun⟩:=aX.pend u hu;rw [ho] at ho';cases ho';have hsel:=fun cs b=>Region.noSelect_spec hs u.2 o cs b ho;have hself:=aX.yG u hu
 have BS:∀ t,t∈o.looksAt ops→s.tmps[t]? =a.tmps[t]? :=fun t ht=>by
  refine aX.agree t (fun u' hu' hd=>?_) (fun p hp hd=>?_)
  ·by_cases he:u'.2=u.2
   ·rw [he,fF ho] at hd;unfold um at hself;simp only [ho,hd] at hself;simp [ht] at hself
   ·have hc:=(aX.uu u' hu' u hu he).2 t o hd ho ht;obtain ⟨e,he1,he2,he3⟩:=sD ho hc;have hl:=hall e he1 he2;rw [he3] at hl
    have hlt:u'.2<ops.size:=by
     obtain ⟨o2,h2,_⟩:=aX.pend u' hu';exact (Array.getElem?_eq_some_iff.1 h2).1
    have:=(aX.Cv u'.2 hlt).2 (.inr (List.mem_map.2 ⟨u',hu',rfl⟩));rw [getD_both this] at hl;cases hl
  ·have hf:=aX.ue u hu p hp;cases hy:ops[p.1]? with
   | none=>simp [om,hy] at hd
   | some y=>exact ((kZ ho hy hf).1 t (by rw [fF hy] at hd;exact hd)).1 ht
 have hev:=qm hsel BS;have hwt:=ni (ops:=ops) BS
 have hI:Inv dA P ops L (U.filter (fun x=>x.2 != u.2)) E (listed.setIfInBounds u.2 true) (s.put o.dst v) a w:=by
  refine ⟨by simpa using aX.size,fun i hi=>?_,qz aX.closed ho hall,by rw [kE];exact aX.defers,by rw [fQ];exact aX.JN,fun t h1 h2=>?_,fun x hx=>aX.pend x (List.mem_filter.1 hx).1,
   fun x hx=>aX.yG x (List.mem_filter.1 hx).1,fun x hx y hy hne=>aX.uu x (List.mem_filter.1 hx).1 y ((List.mem_filter.1 hy).1) hne,fun x hx p hp=>aX.ue x (List.mem_filter.1 hx).1 p hp⟩
  ·rw [nC (by rw [aX.size];exact hi),aX.Cv i hi]
   constructor
   ·rintro ⟨h|h,hne⟩
    ·exact .inl h
    ·obtain ⟨x,hx,rfl⟩:=List.mem_map.1 h;exact .inr (List.mem_map.2 ⟨x,List.mem_filter.2 ⟨hx,by simpa using hne⟩,rfl⟩)
   ·rintro (h|h)
    ·refine ⟨.inl h,?_⟩;rintro rfl
     rcases hL with hL|hL
     ·exact hL h.1
     ·exact h.2 hL
    ·obtain ⟨x,hx,rfl⟩:=List.mem_map.1 h;obtain ⟨hx1,hx2⟩:=List.mem_filter.1 hx;exact ⟨.inr (List.mem_map.2 ⟨x,hx1,rfl⟩),by simpa using hx2⟩
  ·by_cases hd:o.dst=some t
   ·by_cases hlt:t<a.tmps.size
    ·rw [hd,put_eq _ _ (by rw [aX.JN];exact hlt),hv t hd hlt]
    ·rw [bq (by rw [fQ,aX.JN];exact dL hlt),bq (dL hlt)]
   ·rw [kU _ _ hd];refine aX.agree t (fun x hx=>?_) h2
    by_cases he:x.2=u.2
    ·rw [he,fF ho];exact hd
    ·exact h1 x (List.mem_filter.2 ⟨hx,by simpa using he⟩)
 rw [fF ho] at hK;have hKv:=hK _ hI;unfold wpOp;simp only [ho];rw [hwt]
 rcases hrun with ⟨hw1,hw2⟩|⟨hw1,rfl⟩
 ·simp only [hw1,if_true];refine .inl ?_;unfold Oper.wp;rw [hev,hw2 w fun _=>hZ.refl _];exact hKv
 ·simp only [hw1,bK,if_false];exact hKv
theorem BL {N:Nat} (hZ:Ug N dA) (hs:Region.noSelect ops=true) (PE:Led ops)
  (hQ:∀ c (a s:Act) w,s.defers=a.defers→Q (.panic c) a w→Q (.panic c) s w) :
  ∀ (fuel:Nat) (is:List (K × Nat)) (U:List (Bool × Nat)) (listed:Array Bool) (s a:Act) (w:World),
   is.length+U.length≤fuel→Inv dA P ops (is.map (·.2)) U [] listed s a w→iY ops is=true→is.all (·.1.isFin)=true→(is.map (·.2)).Nodup →
   (∀ u∈U,u.2∉is.map (·.2))→(∀ u∈U,∀ q∈is,kV ops (if u.1 then .pure else .read,u.2) q=true) →
   wpOps P ops Q (is.map (·.2)) a w→wpAny P .any ops Q fuel listed s w:=by
 intro fuel
 induction fuel with
 | zero =>
  intro is U listed s a w hm aX hok hfin hnd sP hpr h;have h1:is=[]:=List.length_eq_zero_iff.1 zo;have h2:U=[]:=List.length_eq_zero_iff.1 zo;subst h1 h2;have hsa:s=a:=K8 aX.defers fun t=>aX.agree t zi zi;refine ⟨?_,by rw [hsa];simpa [wpOps] using h⟩;cases hr:Region.ready .any ops listed with
  | nil=>rfl
  | cons r rs =>
   have hm:r∈Region.ready .any ops listed:=by rw [hr];simp
   have:=(aX.Cv r (uL hm)).1 (fZ hm).choose_spec.2.1;simp at this
 | succ fuel ih =>
  intro is U listed s a w hm aX hok hfin hnd sP hpr h;refine ⟨fun hr=>?_,fun r hr=>?_⟩
  ·have hall:=PE _ aX.size hr
   have h1:is=[]:=by
    cases is with
    | nil=>rfl
    | cons x xs =>
     unfold iY at hok;simp only [aD] at hok
     have hlt:x.2<ops.size:=by
      have:=hok.1.2;cases hx:ops[x.2]? with
      | none=>simp [hx] at this
      | some o=>exact (Array.getElem?_eq_some_iff.1 hx).1
     have:=(aX.Cv x.2 hlt).2 (.inl ⟨by simp,by simp⟩);rw [hall x.2 hlt] at this;cases this
   have h2:U=[]:=by
    cases U with
    | nil=>rfl
    | cons x xs =>
     obtain ⟨o,ho,_⟩:=aX.pend x zi;have hlt:=(Array.getElem?_eq_some_iff.1 ho).1;have:=(aX.Cv x.2 hlt).2 (.inr zi);rw [hall x.2 hlt] at this;cases this
   subst h1 h2;have hsa:s=a:=K8 aX.defers fun t=>aX.agree t zi zi;rw [hsa];simpa [wpOps] using h
  ·obtain ⟨o,ho,hun,PD⟩:=fZ hr
   rcases (aX.Cv r (uL hr)).1 hun with ⟨hL,_⟩|hU
   ·cases is with
    | nil=>simp at hL
    | cons x xs =>
     have hxi:r=x.2:=by
      simp only [bL,cK] at hL
      rcases hL with hL|hL
      ·exact hL
      ·exfalso
       obtain ⟨q,hq,rfl⟩:=List.mem_map.1 hL;unfold iY at hok;simp only [gK,aD] at hfin;have hk:x.1= .fin:=by cases hk:x.1<;>simp [K.isFin,hk] at hfin ⊢
       obtain ⟨k,i⟩:=x;simp only at hk;subst hk;simp only [aD] at hok;have hb:=List.all_eq_true.1 hok.1.1.2 q hq;unfold SW.blocked at hb;have hqf:=List.all_eq_true.1 hfin.2 q hq;have hqa:q.1.iJ=false:=by cases hk:q.1<;>simp [K.isFin,K.iJ,hk] at hqf ⊢
       simp only [hqa,Bool.false_or,Bool.or_eq_true] at hb
       rcases hb with hb|hb
       ·refine gI hr hb ((aX.Cv i ?_).2 (.inl ⟨by simp,by simp⟩));have:=hok.1.2;cases hx:ops[i]? with
        | none=>simp [hx] at this
        | some o=>exact (Array.getElem?_eq_some_iff.1 hx).1
       ·obtain ⟨y,hy,hy2⟩:=List.any_eq_true.1 hb;simp only [aD] at hy2;obtain ⟨e,he1,he2,he3⟩:=sD ho hy2.2
        by_cases hlt:y.2<ops.size
        ·exact gI hr hy2.2 ((aX.Cv y.2 hlt).2 (.inl ⟨by simp;exact .inr ⟨y.1,hy⟩,by simp⟩))
        ·have:=PD e he1 he2;rw [he3] at this;simp [aX.size,dL hlt] at this
     subst hxi
     have hpure:∀ u∈U,u.1=true∧fwd ops u.2 x.2=true:=fun u hu=>by
      have hp:=hpr u hu x zi;have hxf:x.1.isFin=true:=by simp only [gK,aD] at hfin;exact hfin.1
      unfold kV at hp;simp only [hxf,if_true,Bool.or_eq_true,aD] at hp
      rcases hp with hp|hp
      ·exfalso
       have hl:=AJ aX.closed _ _ _ hp fun o' ho'=>by rw [ho] at ho';cases ho';exact PD
       obtain ⟨o2,h2,_⟩:=aX.pend u hu;have:=(aX.Cv u.2 (Array.getElem?_eq_some_iff.1 h2).1).2 (.inr (List.mem_map.2 ⟨u,hu,rfl⟩));rw [getD_both this] at hl;cases hl
      ·refine ⟨?_,hp.2⟩;cases hu1:u.1<;>simp [hu1,K.isPure] at hp ⊢
     have BS:∀ t,t∈o.looksAt ops→s.tmps[t]? =a.tmps[t]? :=fun t ht=>by
      refine aX.agree t (fun u hu hd=>?_) zi;have hf:=(hpure u hu).2;cases hx:ops[u.2]? with
      | none=>simp [om,hx] at hd
      | some y =>
       have he:=(kZ hx ho hf).2 t (by rw [fF hx] at hd;exact hd) ht;exact gI hr he ((aX.Cv u.2 (Array.getElem?_eq_some_iff.1 hx).1).2 (.inr (List.mem_map.2 ⟨u,hu,rfl⟩)))
     simp only [bL] at h;rw [wpOps_cons] at h;refine yD ho (fun cs b=>Region.noSelect_spec hs x.2 o cs b ho) BS aX.defers hQ (fun ds v w' hk=>?_) h;have hxf:x.1.isFin=true:=by simp only [gK,aD] at hfin;exact hfin.1
     refine ih xs U (listed.setIfInBounds x.2 true) _ ({ a with defers:=ds }.put o.dst v) w' (by simp at hm;omega) ?_ (by unfold iY at hok;simp only [aD] at hok;exact hok.2) (by simp only [gK,aD] at hfin;exact hfin.2) (by simp at hnd;simpa using hnd.2)
      (fun u hu hm=>sP u hu (by simp only [bL,cK];exact .inr hm)) (fun u hu q hq=>hpr u hu q (by simp [hq])) hk
     refine ⟨by simpa using aX.size,fun i hi=>?_,qz aX.closed ho PD,by simp [kE],by rw [fQ,fQ];exact aX.JN,fun t h1 h2=>?_,fun u hu=>?_,aX.yG,aX.uu,by simp⟩
     ·rw [nC (by rw [aX.size];exact hi),aX.Cv i hi];simp only [bL,cK,uG,gG,not_false_eq_true,and_true];have hnd':x.2∉xs.map (·.2):=by rw [bL,List.nodup_cons] at hnd;exact hnd.1
      constructor
      ·rintro ⟨(h|h)|h,hne⟩
       ·exact absurd h hne
       ·exact .inl h
       ·exact .inr h
      ·rintro (h|h)
       ·exact ⟨.inl (.inr h),fun e=>hnd' (by rw [← e];exact h)⟩
       ·obtain ⟨u,hu,rfl⟩:=List.mem_map.1 h;exact ⟨.inr h,fun e=>sP u hu (by simp [e])⟩
     ·by_cases hd:o.dst=some t
      ·by_cases hlt:t<a.tmps.size
       ·rw [hd,put_eq _ _ (by exact Nat.lt_of_lt_of_eq hlt aX.JN.symm),put_eq _ _ (by exact hlt)]
       ·rw [bq (by rw [fQ];exact aX.JN ▸ dL hlt),bq (by rw [fQ];exact dL hlt)]
      ·rw [kU _ _ hd,kU _ _ hd];exact aX.agree t h1 zi
     ·have hf:=(hpure u hu).2;have h3:DJ dA P ops u { a with defers:=ds } w:=aX.pend u hu
      exact (h3.put hs v fun o' ho' d hd=>(kZ ho' ho hf).1 d hd).later hZ fun hu1=>by rw [(hpure u hu).1] at hu1;cases hu1
   ·obtain ⟨u,hu,rfl⟩:=List.mem_map.1 hU;refine wH hZ hs aX hr hU (.inl (sP u hu)) fun v' I'=>?_;refine ih is _ _ _ a w ?_ I' hok hfin hnd (fun x hx=>sP x (List.mem_filter.1 hx).1) (fun x hx=>hpr x (List.mem_filter.1 hx).1) h;have:(U.filter (fun x=>x.2 != u.2)).length<U.length:=List.length_filter_lt_length_iff_exists.2 ⟨u,hu,by simp⟩;omega
theorem zw (hs:Region.noSelect ops=true) (PE:Led ops)
  (hQ:∀ c (a s:Act) w,s.defers=a.defers→Q (.panic c) a w→Q (.panic c) s w) (N:Nat) (hZ:Ug N dA) :
  ∀ (fuel:Nat) (is:List (K × Nat)) (A:List Nat) (U:List (Bool × Nat)) (E:List (Nat × Nat)) (listed:Array Bool) (s a:Act) (w:World),
   dZ is E+U.length≤fuel→Inv dA P ops (is.map (·.2)) U E listed s a w→iY ops is=true→(is.map (·.2)).Nodup →
   (∀ u∈U,u.2∉is.map (·.2))→(∀ u∈U,∀ q∈is,kV ops (if u.1 then .pure else .read,u.2) q=true) →
   pR P ops is→Early ops N is A E s a w →
   walk dA P ops Q N is A a w→wpAny P .any ops Q fuel listed s w:=by
 intro fuel
 induction fuel using fD with
 | _ fuel ihf =>
 intro is
 induction is with
 | nil =>
  intro A U E listed s a w hm aX hok hnd sP hpr hal he h
  have hE:E=[]:=by
   cases E with
   | nil=>rfl
   | cons p ps=>obtain ⟨cs,T,hmem,_⟩:=he.good p zi;cases hmem
  subst hE;exact BL hZ hs PE hQ fuel [] U listed s a w (by simp [dZ] at hm;simpa using hm) aX rfl rfl zi zi zi (by simp only [uG,wpOps];exact h w (Below.refl _ _))
 | cons x xs ihl =>
  intro A U E listed s a w hm aX hok hnd sP hpr hal he h;obtain ⟨k,i⟩:=x;have hrest:iY ops xs=true:=by unfold iY at hok;simp only [aD] at hok;exact hok.2
  obtain ⟨o,ho⟩:∃ o,ops[i]? =some o:=by
   unfold iY at hok;simp only [aD] at hok;exact Option.isSome_iff_exists.1 hok.1.2
  have hilt:i<ops.size:=(Array.getElem?_eq_some_iff.1 ho).1;have Df:i∉xs.map (·.2)∧(xs.map (·.2)).Nodup:=by simpa only [bL,List.nodup_cons] using hnd
  have hpx:k.isFin=false→∀ q∈xs,kV ops (k,i) q=true:=fun hk=>by
   unfold iY at hok;cases k<;>simp [K.isFin] at hk<;>simp only [aD] at hok
   ·exact fun q hq=>List.all_eq_true.1 hok.1.1.2 q hq
   ·exact fun q hq=>List.all_eq_true.1 hok.1.1.2 q hq
   ·exact fun q hq=>List.all_eq_true.1 hok.1.1.1 q hq
   ·exact fun q hq=>List.all_eq_true.1 hok.1.1.1 q hq
  have YG:k.isFin=false→∀ u∈U,fwd ops u.2 i=true:=fun hk u hu=>by
   have:=hpr u hu (k,i) zi;unfold kV at this
   simpa [hk] using this
  have advance:∀ (b:Bool) (v:Value),k.isFin=false→k.iJ=false→k.isPure=b→um ops i=true→i∉E.map (·.1) →
    ((Region.wanted o (yielded ops a.tmps)=true∧∀ w',(b=false→dA w w')→(execOp a.eval o).run P w'= .ok (.value v) w')∨(Region.wanted o (yielded ops a.tmps)=false∧v=undef)) →
    (k= .pure∨k= .read)→walk dA P ops Q N xs A (a.put o.dst v) w→wpAny P .any ops Q fuel listed s w:=fun b v hkf hka hkb hself vU hrun hkk hw=>by
   have hxl:∀ d,o.dst=some d→d∉o.looksAt ops:=fun d hd hm=>by unfold um at hself;simp only [ho,hd] at hself;simp [hm] at hself
   have hl:∀ t,t∈o.looksAt ops→(a.put o.dst v).tmps[t]? =a.tmps[t]? :=fun t ht=>kU a v fun e=>hxl t e ht;refine ihl A ((b,i)::U) E listed s (a.put o.dst v) w ?_ ?_ hrest Df.2 ?_ ?_ (fun cs T j hj=>hal cs T j (by simp [hj])) ?_ hw
   ·have:dZ ((k,i)::xs) E=dZ xs E+1:=by
     unfold dZ;rw [List.filter_cons_of_pos (by simpa using vU)];rfl
    simp only [aV];omega
   ·refine ⟨aX.size,fun j hj=>?_,aX.closed,by rw [kE];exact aX.defers,by rw [fQ];exact aX.JN,fun t h1 h2=>?_,fun u hu=>?_,fun u hu=>?_,fun u hu v' hv hne=>?_,fun u hu p hp=>?_⟩
    ·rw [aX.Cv j hj];simp only [bL,cK]
     constructor
     ·rintro (⟨h|h,h2⟩|h)
      ·exact .inr (.inl h)
      ·exact .inl ⟨h,h2⟩
      ·exact .inr (.inr h)
     ·rintro (⟨h,h2⟩|h|h)
      ·exact .inl ⟨.inr h,h2⟩
      ·exact .inl ⟨.inl h,by rw [h];exact vU⟩
      ·exact .inr h
    ·have hd:o.dst≠some t:=by have:=h1 (b,i) zi;rwa [fF ho] at this
     rw [kU _ _ hd];exact aX.agree t (fun u hu=>h1 u (by simp [hu])) h2
    ·rcases List.mem_cons.1 hu with hu|hu
     ·subst hu;refine ⟨o,ho,v,fun d hd hlt=>?_,?_⟩
      ·rw [hd];exact put_eq _ _ (by rwa [fQ] at hlt)
      ·rw [ni hl,qm (fun cs b=>Region.noSelect_spec hs i o cs b ho) hl];exact hrun
     ·exact (aX.pend u hu).put hs v fun o' ho' d hd=>(kZ ho' ho (YG hkf u hu)).1 d hd
    ·rcases List.mem_cons.1 hu with hu|hu
     ·subst hu;exact hself
     ·exact aX.yG u hu
    ·rcases List.mem_cons.1 hu with hu|hu<;>rcases List.mem_cons.1 hv with hv|hv
     ·subst hu hv;exact absurd rfl hne
     ·subst hu;exact (jB (YG hkf v' hv)).2
     ·subst hv;exact (jB (YG hkf u hu)).1
     ·exact aX.uu u hu v' hv hne
    ·rcases List.mem_cons.1 hu with hu|hu
     ·subst hu;obtain ⟨cs,T,hmem,_⟩:=he.good p hp
      rcases List.mem_cons.1 hmem with hmem|hmem
      ·cases hmem;simp [K.iJ] at hka
      ·have:=hpx hkf _ hmem;unfold kV at this
       simpa [K.isFin] using this
     ·exact aX.ue u hu p hp
   ·intro u hu
    rcases List.mem_cons.1 hu with hu|hu
    ·subst hu;exact Df.1
    ·intro hm;exact sP u hu (by simp only [bL,cK];exact .inr hm)
   ·intro u hu q hq
    rcases List.mem_cons.1 hu with hu|hu
    ·subst hu;have:=hpx hkf q hq
     rcases hkk with rfl|rfl<;>simp [K.isPure] at hkb<;>subst hkb<;>simpa using this
    ·exact hpr u hu q (by simp [hq])
   ·refine ⟨fun p hp=>?_,he.dist,fun p hp d hd hlt=>he.slot p hp d hd (by rwa [fQ] at hlt),he.old,he.base⟩;obtain ⟨cs,T,hmem,hg⟩:=he.good p hp;refine ⟨cs,T,?_,hg⟩
    rcases List.mem_cons.1 hmem with hmem|hmem
    ·cases hmem;simp [K.iJ] at hka
    ·exact hmem
  have early:∀ (cs:Array Value) (T:TypeId) (r:Nat),(K.alloc cs T,r)∈(k,i)::xs→r∈Region.ready .any ops listed→r∉E.map (·.1)→∀ f,f<fuel→dZ ((k,i)::xs) E+U.length≤f+1 →
    wpOp P ops Q r (wpAny P .any ops Q f (listed.setIfInBounds r true)) s w:=fun cs T r hmem hr hrE f hf Kv=>by
   obtain ⟨y,hy,WO,FQ⟩:=fZ hr;obtain ⟨hg,hrun⟩:=hal cs T r hmem y hy;have aw4:=uL hr;have hb:Below w.heap.size w (w.alloc (.cells cs T (0,0))):=(Below.refl _ _).alloc (aG _) _;have hsz:(w.alloc (.cells cs T (0,0))).heap.size=w.heap.size+1:=by simp
   have Z7:r∈((k,i)::xs).map (·.2):=List.mem_map.2 ⟨_,hmem,rfl⟩
   have key:wpAny P .any ops Q f (listed.setIfInBounds r true) (s.put y.dst (au (some ⟨w.heap.size,0,none⟩))) (w.alloc (.cells cs T (0,0))):=by
    refine ihf f hf ((k,i)::xs) A U ((r,w.heap.size)::E) _ _ a _ ?_ ?_ hok hnd sP hpr hal ?_ (nD hZ _ _ _ _ _ hb h)
    ·have hlt:dZ ((k,i)::xs) ((r,w.heap.size)::E)<dZ ((k,i)::xs) E:=by
      unfold dZ
      have e:((k,i)::xs).filter (fun x=> !(((r,w.heap.size)::E).map (·.1)).contains x.2)=(((k,i)::xs).filter (fun x=> !(E.map (·.1)).contains x.2)).filter (fun x=>x.2 != r):=by
       rw [List.filter_filter]
       congr 1
       funext x
       simp only [bL,List.contains_cons,Bool.not_or];rfl
      rw [e];exact List.length_filter_lt_length_iff_exists.2 ⟨_,List.mem_filter.2 ⟨hmem,by simpa using hrE⟩,by simp⟩
     omega
    ·refine ⟨by simpa using aX.size,fun j hj=>?_,qz aX.closed hy FQ,by rw [kE];exact aX.defers,by rw [fQ];exact aX.JN,fun t h1 h2=>?_,fun u hu=>(aX.pend u hu).later hZ fun _=>(by first|exact hZ.of hb|exact hb),aX.yG,aX.uu,fun u hu p hp=>?_⟩
     ·rw [nC (by rw [aX.size];exact hj),aX.Cv j hj];simp only [bL,cK,not_or]
      constructor
      ·rintro ⟨⟨h,h2⟩|h,hne⟩
       ·exact .inl ⟨h,hne,h2⟩
       ·exact .inr h
      ·rintro (⟨h,hne,h2⟩|h)
       ·exact ⟨.inl ⟨h,h2⟩,hne⟩
       ·obtain ⟨u,hu,rfl⟩:=List.mem_map.1 h;exact ⟨.inr h,fun e=>sP u hu (e ▸ Z7)⟩
     ·have hd:y.dst≠some t:=by have:=h2 (r,w.heap.size) zi;rwa [fF hy] at this
      rw [kU _ _ hd];exact aX.agree t h1 fun p hp=>h2 p (by simp [hp])
     ·rcases List.mem_cons.1 hp with hp|hp
      ·subst hp;have:=hpr u hu _ hmem;unfold kV at this
       simpa [K.isFin] using this
      ·exact aX.ue u hu p hp
    ·refine ⟨fun p hp=>?_,fun p hp q hq hne=>?_,fun p hp d hd hlt=>?_,fun x hx=>by rw [hsz];exact Nat.lt_succ_of_lt (he.old x hx),by rw [hsz];exact Nat.le_succ_of_le he.base⟩
     ·rcases List.mem_cons.1 hp with hp|hp
      ·subst hp;exact ⟨cs,T,hmem,(by show (w.heap.push _)[w.heap.size]? =_;simp),he.base,by rw [hsz];exact Nat.lt_succ_self _,fun hA=>Nat.lt_irrefl _ (he.old _ hA)⟩
      ·obtain ⟨cs',T',hm',hh,h1,h2,h3⟩:=he.good p hp;exact ⟨cs',T',hm',by rw [Below.heap_alloc _ _ _ h2];exact hh,h1,by rw [hsz];exact Nat.lt_succ_of_lt h2,h3⟩
     ·rcases List.mem_cons.1 hp with hp|hp<;>rcases List.mem_cons.1 hq with hq|hq
      ·subst hp hq;exact absurd rfl hne
      ·subst hp;obtain ⟨_,_,_,_,_,h2,_⟩:=he.good q hq;exact fun e=>by simp only at e;omega
      ·subst hq;obtain ⟨_,_,_,_,_,h2,_⟩:=he.good p hp;exact fun e=>by simp only at e;omega
      ·exact he.dist p hp q hq hne
     ·rcases List.mem_cons.1 hp with hp|hp
      ·subst hp;rw [fF hy] at hd;rw [hd];exact put_eq _ _ (by exact Nat.lt_of_lt_of_eq hlt aX.JN.symm)
      ·obtain ⟨cs',T',hm',_⟩:=he.good p hp;have hne:p.1≠r:=fun e=>hrE (e ▸ List.mem_map.2 ⟨p,hp,rfl⟩);have hc:=tC _ hok _ hm' _ hmem rfl rfl hne;rw [kU _ _ (fun e=>hc.1 d hd (by rw [fF hy];exact e))];exact he.slot p hp d hd hlt
   unfold wpOp;simp only [hy,Region.wanted,hg,if_true];refine .inl ?_;unfold Oper.wp;rw [hrun];exact key
  have hcount:i∉E.map (·.1)→1≤fuel:=fun vU=>by
   have:dZ ((k,i)::xs) E=dZ xs E+1:=by
    unfold dZ;rw [List.filter_cons_of_pos (by simpa using vU)];rfl
   omega
  have hinj:∀ (l:List (K × Nat)),(l.map (·.2)).Nodup→∀ x∈l,∀ y∈l,x.2=y.2→x=y:=by
   intro l
   induction l with
   | nil=>intro _ x hx;cases hx
   | cons c l ihh =>
    intro hn x hx0 y hy0 hxy;rw [bL,List.nodup_cons] at hn
    rcases List.mem_cons.1 hx0 with hx|hx<;>rcases List.mem_cons.1 hy0 with hy|hy
    ·rw [hx,hy]
    ·exact absurd (List.mem_map.2 ⟨y,hy,by rw [← hxy,hx]⟩) hn.1
    ·exact absurd (List.mem_map.2 ⟨x,hx,by rw [hxy,hy]⟩) hn.1
    ·exact ihh hn.2 x hx y hy hxy
  have actual:(k= .ext∨k.iJ=true)→i∉E.map (·.1)→xs.all (SW.blocked ops i xs)=true →
    (∀ f,fuel=f+1→i∈Region.ready .any ops listed→wpOp P ops Q i (wpAny P .any ops Q f (listed.setIfInBounds i true)) s w)→wpAny P .any ops Q fuel listed s w:=fun hk vU hbl hhead=>by
   obtain ⟨f,rfl⟩:∃ f,fuel=f+1:=⟨fuel - 1,by have:=hcount vU;omega⟩;have Z4:listed.getD i true=false:=(aX.Cv i hilt).2 (.inl ⟨by simp,vU⟩);refine ⟨fun hr=>?_,fun r hr=>?_⟩
   ·exfalso
    have:=PE _ aX.size hr i hilt;rw [Z4] at this;cases this
   ·obtain ⟨y,hy,WO,FQ⟩:=fZ hr
    rcases (aX.Cv r (uL hr)).1 WO with ⟨hL,hrE⟩|hU
    ·simp only [bL,cK] at hL
     rcases hL with hL|hL
     ·subst hL;exact hhead f rfl hr
     ·obtain ⟨q,hq,rfl⟩:=List.mem_map.1 hL;have hb:=List.all_eq_true.1 hbl q hq;unfold SW.blocked at hb;simp only [Bool.or_eq_true] at hb
      rcases hb with (hb|hb)|hb
      ·obtain ⟨kq,jq⟩:=q;cases kq with
       | alloc cs T=>exact early cs T jq (by simp [hq]) hr hrE f (Nat.lt_succ_self _) zo
       | _=>simp [K.iJ] at hb
      ·exact (gI hr hb Z4).elim
      ·obtain ⟨z,hz,hz2⟩:=List.any_eq_true.1 hb;simp only [aD,iN] at hz2;obtain ⟨e,he1,he2,he3⟩:=sD hy hz2.2
       by_cases hlt:z.2<ops.size
       ·refine (gI hr hz2.2 ((aX.Cv z.2 hlt).2 (.inl ⟨by simp;exact .inr ⟨z.1,hz⟩,fun hzE=>?_⟩))).elim;obtain ⟨p,hp,hpe⟩:=List.mem_map.1 hzE;obtain ⟨cs,T,hmem,_⟩:=he.good p hp;have hmem':(K.alloc cs T,z.2)∈(k,i)::xs:=by rw [← hpe];exact hmem
        rcases List.mem_cons.1 hmem' with h3|h3
        ·have:z.2=i:=by cases h3;rfl
         exact Df.1 (this ▸ List.mem_map.2 ⟨z,hz,rfl⟩)
        ·have:z=(K.alloc cs T,z.2):=by
          exact hinj xs Df.2 z hz _ h3 rfl
         rw [this] at hz2;simp [K.iJ] at hz2
       ·have:=FQ e he1 he2;rw [he3] at this;simp [aX.size,dL hlt] at this
    ·obtain ⟨u,hu,rfl⟩:=List.mem_map.1 hU;refine wH hZ hs aX hr hU (.inl (sP u hu)) fun v' I'=>?_;refine ihf f (Nat.lt_succ_self _) ((k,i)::xs) A _ E _ _ a w ?_ I' hok hnd (fun x hx=>sP x (List.mem_filter.1 hx).1) (fun x hx=>hpr x (List.mem_filter.1 hx).1) hal ?_ h
     ·have:(U.filter (fun x=>x.2 != u.2)).length<U.length:=List.length_filter_lt_length_iff_exists.2 ⟨u,hu,by simp⟩;omega
     ·refine ⟨he.good,he.dist,fun p hp d hd hlt=>?_,he.old,he.base⟩;have hc:=(jB (aX.ue u hu p hp)).2;rw [kU _ _ (fun e=>hc.1 d hd e)];exact he.slot p hp d hd hlt
  have uU:k.iJ=false→i∉E.map (·.1):=fun hk hm=>by
   obtain ⟨p,hp,hpe⟩:=List.mem_map.1 hm;obtain ⟨cs,T,hmem,_⟩:=he.good p hp;have:=hinj _ hnd _ hmem (k,i) zi hpe;cases this
   simp [K.iJ] at hk
  have S9:∀ p∈E,p.1≠i→∃ cs T,(K.alloc cs T,p.1)∈xs∧w.heap[p.2]? =some (.cells cs T (0,0))∧N≤p.2∧p.2<w.heap.size∧p.2∉A:=fun p hp hne=>by
   obtain ⟨cs,T,hmem,hg⟩:=he.good p hp;refine ⟨cs,T,?_,hg⟩
   rcases List.mem_cons.1 hmem with hmem|hmem
   ·cases hmem;exact absurd rfl hne
   ·exact hmem
  unfold walk at h;simp only [ho] at h;cases k with
  | pure =>
   simp only at h;have hself:um ops i=true:=by unfold iY at hok;simp only [aD] at hok;exact hok.1.1.1
   split at h
   ·rename_i hw;obtain ⟨v,h1,h2⟩:=h;exact advance true v rfl rfl rfl hself (uU rfl) (.inl ⟨hw,fun w' _=>h1 w'⟩) (.inl rfl) h2
   ·rename_i hw;exact advance true undef rfl rfl rfl hself (uU rfl) (.inr ⟨by simpa using hw,rfl⟩) (.inl rfl) h
  | read =>
   simp only at h;have hself:um ops i=true:=by unfold iY at hok;simp only [aD] at hok;exact hok.1.1.1
   split at h
   ·rename_i hw;obtain ⟨v,h1,h2⟩:=h;exact advance false v rfl rfl rfl hself (uU rfl) (.inl ⟨hw,fun w' hb=>h1 w' (hb rfl)⟩) (.inr rfl) h2
   ·rename_i hw;exact advance false undef rfl rfl rfl hself (uU rfl) (.inr ⟨by simpa using hw,rfl⟩) (.inr rfl) h
  | fin =>
   have hfin:xs.all (·.1.isFin)=true:=by unfold iY at hok;simp only [aD] at hok;exact hok.1.1.1
   have hE:E=[]:=by
    cases E with
    | nil=>rfl
    | cons p ps =>
     obtain ⟨cs,T,hmem,_⟩:=he.good p zi
     rcases List.mem_cons.1 hmem with hmem|hmem
     ·cases hmem
     ·have:=List.all_eq_true.1 hfin _ hmem;simp [K.isFin] at this
   subst hE;exact BL hZ hs PE hQ fuel ((.fin,i)::xs) U listed s a w (by rw [oI] at hm;exact hm) aX hok (by rw [gK,hfin];rfl) hnd sP hpr (h w (Below.refl _ _))
  | ext =>
   have hbl:xs.all (SW.blocked ops i xs)=true:=by unfold iY at hok;simp only [aD] at hok;exact hok.1.1.2
   refine actual (.inl rfl) (uU rfl) hbl fun f hf hr=>?_;obtain ⟨y,hy,WO,FQ⟩:=fZ hr;rw [ho] at hy;cases hy
   have BS:∀ t,t∈o.looksAt ops→s.tmps[t]? =a.tmps[t]? :=fun t ht=>by
    refine aX.agree t (fun u hu hd=>?_) (fun p hp hd=>?_)
    ·have hf:=YG rfl u hu;cases hx:ops[u.2]? with
     | none=>simp [om,hx] at hd
     | some y =>
      have he':=(kZ hx ho hf).2 t (by rw [fF hx] at hd;exact hd) ht;exact gI hr he' ((aX.Cv u.2 (Array.getElem?_eq_some_iff.1 hx).1).2 (.inr (List.mem_map.2 ⟨u,hu,rfl⟩)))
    ·obtain ⟨cs,T,hmem,_⟩:=S9 p hp fun e=>uU rfl (e ▸ List.mem_map.2 ⟨p,hp,rfl⟩);have hf:=hpx rfl _ hmem;unfold kV at hf;simp only [K.isFin,bK,if_false] at hf;cases hx:ops[p.1]? with
     | none=>simp [om,hx] at hd
     | some y=>exact ((kZ ho hx hf).1 t (by rw [fF hx] at hd;exact hd)).1 ht
   have h':wpOp P ops Q i (fun a' w''=>dA w w''∧walk dA P ops Q N xs A a' w'') a w:=by
    unfold wpOp;simp only [ho];simp only at h;split at h
    ·rename_i hw;simp only [hw,if_true];exact .inl (h w (Below.refl _ _))
    ·rename_i hw;simp only [hw,bK,if_false];exact ⟨hZ.refl _,h⟩
   refine yD ho (fun cs b=>Region.noSelect_spec hs i o cs b ho) BS aX.defers hQ (fun ds v w' hk=>?_) h';obtain ⟨hb,hk⟩:=hk
   have ax0:dZ ((.ext,i)::xs) E=dZ xs E+1:=by
    unfold dZ;rw [List.filter_cons_of_pos (by simpa using uU rfl)];rfl
   refine ihf f zo xs A U E _ _ ({ a with defers:=ds }.put o.dst v) w' zo ?_ hrest Df.2 (fun u hu hm=>sP u hu (by simp only [bL,cK];exact .inr hm)) (fun u hu q hq=>hpr u hu q (by simp [hq]))
    (fun cs T j hj=>hal cs T j (by simp [hj])) ?_ hk
   ·refine ⟨by simpa using aX.size,fun j hj=>?_,qz aX.closed ho FQ,by simp [kE],by rw [fQ,fQ];exact aX.JN,fun t h1 h2=>?_,fun u hu=>?_,aX.yG,aX.uu,aX.ue⟩
    ·rw [nC (by rw [aX.size];exact hj),aX.Cv j hj];simp only [bL,cK]
     constructor
     ·rintro ⟨⟨h|h,h2⟩|h,hne⟩
      ·exact absurd h hne
      ·exact .inl ⟨h,h2⟩
      ·exact .inr h
     ·rintro (⟨h,h2⟩|h)
      ·exact ⟨.inl ⟨.inr h,h2⟩,fun e=>Df.1 (e ▸ h)⟩
      ·obtain ⟨u,hu,rfl⟩:=List.mem_map.1 h;exact ⟨.inr h,fun e=>sP u hu (by simp [e])⟩
    ·by_cases hd:o.dst=some t
     ·by_cases hlt:t<a.tmps.size
      ·rw [hd,put_eq _ _ (by exact Nat.lt_of_lt_of_eq hlt aX.JN.symm),put_eq _ _ (by exact hlt)]
      ·rw [bq (by rw [fQ];exact aX.JN ▸ dL hlt),bq (by rw [fQ];exact dL hlt)]
     ·rw [kU _ _ hd,kU _ _ hd];exact aX.agree t h1 h2
    ·have h3:DJ dA P ops u { a with defers:=ds } w:=aX.pend u hu
     exact (h3.put hs v fun o' ho' d hd=>(kZ ho' ho (YG rfl u hu)).1 d hd).later hZ fun _=>(by first|exact hZ.of hb|exact hb)
   ·refine ⟨fun p hp=>?_,he.dist,fun p hp d hd hlt=>?_,fun x hx=>aP (he.old x hx) (hZ.size hb),ay he.base (hZ.size hb)⟩
    ·obtain ⟨cs,T,hmem,hh,h1,h2,h3⟩:=S9 p hp fun e=>uU rfl (e ▸ List.mem_map.2 ⟨p,hp,rfl⟩);exact ⟨cs,T,hmem,by rw [hZ.block hb _ h1 h2];exact hh,h1,aP h2 (hZ.size hb),h3⟩
    ·obtain ⟨cs,T,hmem,_⟩:=S9 p hp fun e=>uU rfl (e ▸ List.mem_map.2 ⟨p,hp,rfl⟩);have hf:=hpx rfl _ hmem;unfold kV at hf;simp only [K.isFin,bK,if_false] at hf;have hc:=(jB hf).2;rw [kU _ _ (fun e=>hc.1 d hd (by rw [fF ho];exact e))];exact he.slot p hp d hd (by rwa [fQ] at hlt)
  | alloc cs T =>
   have hbl:xs.all (SW.blocked ops i xs)=true:=by unfold iY at hok;simp only [aD] at hok;exact hok.1.1.2
   by_cases vU:i∈E.map (·.1)
   ·obtain ⟨p,hp,hpi⟩:=List.mem_map.1 vU;obtain ⟨cs',T',hmem,hh,h1,h2,h3⟩:=he.good p hp;have hsame:=hinj _ hnd _ hmem (.alloc cs T,i) zi hpi;have e1:cs'=cs:=by injection hsame with a b;injection a
    have e2:T'=T:=by injection hsame with a b;injection a
    subst e1 e2;have hk:=h p.2 w (Below.refl _ _) h1 h2 h3 hh;have Z5:∀ d,o.dst=some d→d<a.tmps.size→s.tmps[d]? =some (.pointer (some ⟨p.2,0,none⟩)):=fun d hd hlt=>he.slot p hp d (by rw [hpi,fF ho];exact hd) hlt
    refine ihl (p.2::A) U (E.filter (fun x=>x.1 != i)) listed s (a.put o.dst (au (some ⟨p.2,0,none⟩))) w ?_ ?_ hrest Df.2 (fun u hu hm=>sP u hu (by simp only [bL,cK];exact .inr hm)) (fun u hu q hq=>hpr u hu q (by simp [hq]))
     (fun cs T j hj=>hal cs T j (by simp [hj])) ?_ hk
    ·have:dZ xs (E.filter (fun x=>x.1 != i))=dZ ((.alloc cs' T',i)::xs) E:=by
      unfold dZ;rw [List.filter_cons_of_neg (by simpa using vU)]
      congr 1
      refine List.filter_congr fun x hx=>?_;have hxi:x.2≠i:=fun e=>Df.1 (e ▸ List.mem_map.2 ⟨x,hx,rfl⟩)
      congr 1
      rw [jm];simp only [List.contains_iff_mem,Cn,xC,bne_iff_ne,ne_eq]
      constructor
      ·rintro ⟨y,⟨hy,_⟩,e⟩;exact ⟨y,hy,e⟩
      ·rintro ⟨y,hy,e⟩;exact ⟨y,⟨hy,fun e2=>hxi (e ▸ e2)⟩,e⟩
     omega
    ·refine ⟨aX.size,fun j hj=>?_,aX.closed,by rw [kE];exact aX.defers,by rw [fQ];exact aX.JN,fun t h1 h2=>?_,fun u hu=>(aX.pend u hu).put hs _ fun o' ho' d hd=>(kZ ho' ho (YG rfl u hu)).1 d hd,aX.yG,aX.uu,fun u hu q hq=>aX.ue u hu q (List.mem_filter.1 hq).1⟩
     ·rw [aX.Cv j hj];simp only [bL,cK,Cn,xC,bne_iff_ne,ne_eq]
      constructor
      ·rintro (⟨h|h,h2⟩|h)
       ·subst h;exact absurd ⟨p,hp,hpi⟩ h2
       ·exact .inl ⟨h,fun ⟨y,⟨hy,_⟩,e⟩=>h2 ⟨y,hy,e⟩⟩
       ·exact .inr h
      ·rintro (⟨h,h2⟩|h)
       ·refine .inl ⟨.inr h,fun ⟨y,hy,e⟩=>h2 ⟨y,⟨hy,fun e2=>?_⟩,e⟩⟩;obtain ⟨z,hz,hz2⟩:=h;exact Df.1 (List.mem_map.2 ⟨z,hz,by rw [hz2,← e,e2]⟩)
       ·exact .inr h
     ·by_cases hd:o.dst=some t
      ·by_cases hlt:t<a.tmps.size
       ·rw [hd,put_eq _ _ hlt,Z5 t hd hlt]
       ·rw [bq (by rw [aX.JN];exact dL hlt),bq (by rw [fQ];exact dL hlt)]
      ·rw [kU _ _ hd];refine aX.agree t h1 fun q hq I8=>?_
       by_cases hqi:q.1=i
       ·rw [hqi,fF ho] at I8;exact hd I8
       ·exact h2 q (List.mem_filter.2 ⟨hq,by simpa using hqi⟩) I8
    ·refine ⟨fun q hq=>?_,fun q hq r hr=>he.dist q (List.mem_filter.1 hq).1 r (List.mem_filter.1 hr).1,fun q hq d hd hlt=>he.slot q (List.mem_filter.1 hq).1 d hd (by rwa [fQ] at hlt),fun x hx=>?_,he.base⟩
     ·obtain ⟨hq1,hq2⟩:=List.mem_filter.1 hq;have hqi:q.1≠i:=by simpa using hq2
      obtain ⟨cs2,T2,aa3,hh2,g1,g2,g3⟩:=S9 q hq1 hqi;refine ⟨cs2,T2,aa3,hh2,g1,g2,?_⟩;simp only [cK,not_or];exact ⟨he.dist q hq1 p hp (by rw [hpi];exact hqi),g3⟩
     ·rcases List.mem_cons.1 hx with hx|hx
      ·rw [hx];exact h2
      ·exact he.old x hx
   ·exact actual (.inr rfl) vU hbl fun f hf hr=>early cs T i zi hr vU f zo zo
theorem aQ {id:Nat} {a:Act} {w:World} (is:List (K × Nat)) {N:Nat} (hZ:Ug N dA) (hN:w.heap.size=N) (hm:P.follows .mixedOrders=true) (hc:check ops is=true) (hal:pR P ops is)
  (hQ:∀ c (a s:Act) w,s.defers=a.defers→Q (.panic c) a w→Q (.panic c) s w)
  (h:walk dA P ops Q N is [] a w.drew):(Code.region id ops true).wp P Q a w:=by
 unfold check at hc;simp only [aD,decide_eq_true_eq] at hc;obtain ⟨⟨⟨⟨⟨h1,h2⟩,h3⟩,h4⟩,h5⟩,h6⟩:=hc;refine wp_region_any hm ?_;refine zw h1 (Wz h2) hQ N hZ ops.size is [] [] [] _ a a w.drew ?_ ?_ h3 h4 zi zi hal ?_ h
 ·rw [oI];exact h5
 ·refine ⟨by simp,fun i hi=>?_,fun j o hj hl=>?_,rfl,rfl,fun t _ _=>rfl,by simp,by simp,by simp,by simp⟩
  ·have hmem:i∈is.map (·.2):=by simpa using List.all_eq_true.1 h6 i (List.mem_range.2 hi)
   simp [hi] 
   simpa using hmem
  ·have hj':=(Array.getElem?_eq_some_iff.1 hj).1;simp [hj'] at hl
 ·exact ⟨by simp,by simp,by simp,by simp,Nat.le_of_eq hN.symm⟩
variable {N:Nat} {is:List (K × Nat)} {i:Nat} {A:List Nat} {a:Act} {w:World} {o:Oper}
theorem fE {cs:Array Value} {T:TypeId} (ho:ops[i]? =some o) (h:∀ b w',Below w.heap.size w w'→N≤b→b<w'.heap.size→b∉A→w'.heap[b]? =some (.cells cs T (0,0))→walk dA P ops Q N is (b::A) (a.put o.dst (au (some ⟨b,0,none⟩))) w'):walk dA P ops Q N ((.alloc cs T,i)::is) A a w:=by
 unfold walk;simp only [ho];exact h
end
end Go.Bv
