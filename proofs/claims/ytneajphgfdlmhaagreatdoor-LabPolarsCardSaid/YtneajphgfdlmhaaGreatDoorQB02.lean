/- Lemmas for the proof. No condition. -/
import Derived.Test.YtneajphgfdlmhaaGreatDoorQB01
set_option linter.unusedVariables false
set_option linter.unusedSimpArgs false
set_option maxRecDepth 100000
set_option maxHeartbeats 16000000
open Array renaming getElem?_eq_none → bZ
open Bool renaming and_eq_true → aK, eq_iff_iff → iN, false_eq_true → dJ, not_eq_true' → jh
open Go.Value renaming pointer → aB
open List renaming all_cons → gW, length_cons → bg, map_cons → bL, map_nil → gY, mem_cons → dR, mem_filter → Ap, mem_map → F7
open List.cons renaming injEq → jf
open Nat renaming le_of_not_lt → dL, le_refl → aD, le_trans → ay, lt_of_lt_of_le → aI, lt_or_ge → aO, strongRecOn → gL
namespace Go.Ia
open Go Go.RowKit Go.SW
structure Y4 (N:Nat) (eZ:World→World→Prop):Prop where
 refl:∀ w,eZ w w
 trans:∀ {a b c:World},eZ a b→eZ b c→eZ a c
 of:∀ {w w':World},Below w.heap.size w w'→eZ w w'
 size:∀ {w w':World},eZ w w'→w.heap.size≤w'.heap.size
 block:∀ {w w':World},eZ w w'→∀ b,N≤b→b<w.heap.size→w'.heap[b]? =w.heap[b]?
section
variable (eZ:World→World→Prop) (P:Program) (ops:Array Oper) (Q:Exit→Act→World→Prop)
def walk (N:Nat):List (K × Nat)→List Nat→Act→World→Prop
 | [],_,a,w=>∀ w',Below w.heap.size w w'→Q .normal a w'
 | (k,i)::is,A,a,w =>
  match ops[i]? with
  | none=>False
  | some o =>
   match k with
   | .pure=>if Region.wanted o (yielded ops a.tmps) then ∃ v,(∀ w',(execOp a.eval o).run P w'= .ok (.value v) w')∧walk N is A (a.put o.dst v) w else walk N is A (a.put o.dst undef) w
   | .read=>if Region.wanted o (yielded ops a.tmps) then ∃ v,(∀ w',eZ w w'→(execOp a.eval o).run P w'= .ok (.value v) w')∧walk N is A (a.put o.dst v) w else walk N is A (a.put o.dst undef) w
   | .alloc cs T=>∀ b w',Below w.heap.size w w'→N≤b→b<w'.heap.size→b∉A→w'.heap[b]? =some (.cells cs T (0,0))→walk N is (b::A) (a.put o.dst (aB (some ⟨b,0,none⟩))) w'
   | .ext=>if Region.wanted o (yielded ops a.tmps) then ∀ w',Below w.heap.size w w'→o.wp P a w' (fun a' w''=>eZ w' w''∧walk N is A a' w'') Q else walk N is A (a.put o.dst undef) w
   | .fin=>∀ w',Below w.heap.size w w'→wpOps P ops Q (i::is.map (·.2)) a w'
end
section
variable {eZ:World→World→Prop} {P:Program} {ops:Array Oper} {Q:Exit→Act→World→Prop}
theorem oL {N:Nat} (hZ:Y4 N eZ):∀ (is:List (K × Nat)) (A:List Nat) (a:Act) (w w1:World),Below w.heap.size w w1→walk eZ P ops Q N is A a w→walk eZ P ops Q N is A a w1
 | [],_,_,_,_,hb,h=>fun w' hw'=>h w' (mF hb hw')
 | (k,i)::is,A,a,w,w1,hb,h=>by
  unfold walk at h ⊢;cases ho:ops[i]? with
  | none=>simp only [ho] at h
  | some o =>
   simp only [ho] at h ⊢;cases k with
   | pure =>
    simp only at h ⊢;split at h
    ·rename_i hw;obtain ⟨v,h1,h2⟩:=h;simp only [hw,if_true];exact ⟨v,h1,oL hZ is _ _ _ _ hb h2⟩
    ·rename_i hw;simp only [hw,if_false,dJ];exact oL hZ is _ _ _ _ hb h
   | read =>
    simp only at h ⊢;split at h
    ·rename_i hw;obtain ⟨v,h1,h2⟩:=h;simp only [hw,if_true];exact ⟨v,fun w' hw'=>h1 w' (hZ.trans (hZ.of hb) hw'),oL hZ is _ _ _ _ hb h2⟩
    ·rename_i hw;simp only [hw,if_false,dJ];exact oL hZ is _ _ _ _ hb h
   | alloc cs T=>exact fun b w' hw'=>h b w' (mF hb hw')
   | ext =>
    simp only at h ⊢;split at h
    ·rename_i hw;simp only [hw,if_true];exact fun w' hw'=>h w' (mF hb hw')
    ·rename_i hw;simp only [hw,if_false,dJ];exact oL hZ is _ _ _ _ hb h
   | fin=>exact fun w' hw'=>h w' (mF hb hw')
def Ie (eZ:World→World→Prop) (P:Program) (ops:Array Oper) (u:Bool × Nat) (a:Act) (w:World):Prop :=
 ∃ o,ops[u.2]? =some o∧∃ v,(∀ d,o.dst=some d→d<a.tmps.size→a.tmps[d]? =some v) ∧
  ((Region.wanted o (yielded ops a.tmps)=true∧∀ w',(u.1=false→eZ w w')→(execOp a.eval o).run P w'= .ok (.value v) w') ∨
   (Region.wanted o (yielded ops a.tmps)=false∧v=undef))
theorem Ie.put {u:Bool × Nat} {a:Act} {w:World} (hs:Region.noSelect ops=true) (h:Ie eZ P ops u a w) {x:Option Tmp} (v:Value)
  (hx:∀ o,ops[u.2]? =some o→∀ d,x=some d→d∉o.looksAt ops∧o.dst≠some d):Ie eZ P ops u (a.put x v) w:=by
 obtain ⟨o,ho,v',h1,h2⟩:=h;have hl:∀ t,t∈o.looksAt ops→(a.put x v).tmps[t]? =a.tmps[t]? :=fun t ht=>mP a v fun e=>(hx o ho t e).1 ht;have hsel:=fun cs b=>Region.noSelect_spec hs u.2 o cs b ho;refine ⟨o,ho,v',fun d hd hlt=>?_,?_⟩
 ·rw [mP a v fun e=>(hx o ho d e).2 hd];exact h1 d hd (by rwa [gZ] at hlt)
 ·rw [oD hl,rZ hsel hl];exact h2
theorem Ie.later {N:Nat} (hZ:Y4 N eZ) {u:Bool × Nat} {a:Act} {w w1:World} (h:Ie eZ P ops u a w) (hb:u.1=false→eZ w w1):Ie eZ P ops u a w1:=by
 obtain ⟨o,ho,v',h1,h2⟩:=h;exact ⟨o,ho,v',h1,h2.imp (fun ⟨x,y⟩=>⟨x,fun w' hw'=>y w' fun hu=>hZ.trans (hb hu) (hw' hu)⟩) id⟩
structure Inv (eZ:World→World→Prop) (P:Program) (ops:Array Oper) (L:List Nat) (U:List (Bool × Nat)) (E:List (Nat × Nat)) (listed:Array Bool) (s a:Act) (w:World):Prop where
 size:listed.size=ops.size
 Gf:∀ i,i<ops.size→(listed.getD i true=false↔(i∈L∧i∉E.map (·.1))∨i∈U.map (·.2))
 closed:Closed ops listed
 defers:s.defers=a.defers
 Oe:s.tmps.size=a.tmps.size
 agree:∀ t,(∀ u∈U,qb ops u.2≠some t)→(∀ p∈E,qb ops p.1≠some t)→s.tmps[t]? =a.tmps[t]?
 pend:∀ u∈U,Ie eZ P ops u a w
 Bu:∀ u∈U,wu ops u.2=true
 uu:∀ u∈U,∀ v∈U,u.2≠v.2→compat ops u.2 v.2
 ue:∀ u∈U,∀ p∈E,fwd ops u.2 p.1=true
theorem zQ {N:Nat} (hZ:Y4 N eZ) {L:List Nat} {U:List (Bool × Nat)} {E:List (Nat × Nat)} {listed:Array Bool} {s a:Act} {w:World} (hs:Region.noSelect ops=true) (bK:Inv eZ P ops L U E listed s a w) {r:Nat}
  (hr:r∈Region.ready .any ops listed) (hU:r∈U.map (·.2)) {K:Act→World→Prop}
  (hL:r∉L∨r∈E.map (·.1))
  (hK:∀ v,Inv eZ P ops L (U.filter (fun u=>u.2 != r)) E (listed.setIfInBounds r true) (s.put (qb ops r) v) a w→K (s.put (qb ops r) v) w):wpOp P ops Q r K s w:=by
 obtain ⟨u,hu,rfl⟩:=List.mem_map.1 hU;obtain ⟨o,ho,hun,hall⟩:=iy hr;obtain ⟨o',ho',v,hv,hrun⟩:=bK.pend u hu;rw [ho] at ho';cases ho';have hsel:=fun cs b=>Region.noSelect_spec hs u.2 o cs b ho;have hself:=bK.Bu u hu
 have Fy:∀ t,t∈o.looksAt ops→s.tmps[t]? =a.tmps[t]? :=fun t ht=>by
  refine bK.agree t (fun u' hu' hd=>?_) (fun p hp hd=>?_)
  ·by_cases he:u'.2=u.2
   ·rw [he,gU ho] at hd;unfold wu at hself;simp only [ho,hd] at hself;simp [ht] at hself
   ·have hc:=(bK.uu u' hu' u hu he).2 t o hd ho ht;obtain ⟨e,he1,he2,he3⟩:=vg ho hc;have hl:=hall e he1 he2;rw [he3] at hl
    have hlt:u'.2<ops.size:=by
     obtain ⟨o2,h2,_⟩:=bK.pend u' hu';exact (Array.getElem?_eq_some_iff.1 h2).1
    have:=(bK.Gf u'.2 hlt).2 (.inr (List.mem_map.2 ⟨u',hu',rfl⟩));rw [getD_both this] at hl;cases hl
  ·have hf:=bK.ue u hu p hp;cases hy:ops[p.1]? with
   | none=>simp [qb,hy] at hd
   | some y=>exact ((mV ho hy hf).1 t (by rw [gU hy] at hd;exact hd)).1 ht
 have hev:=rZ hsel Fy;have hwt:=oD (ops:=ops) Fy
 have hI:Inv eZ P ops L (U.filter (fun x=>x.2 != u.2)) E (listed.setIfInBounds u.2 true) (s.put o.dst v) a w:=by
  refine ⟨by simpa using bK.size,fun i hi=>?_,su bK.closed ho hall,by rw [mh];exact bK.defers,by rw [gZ];exact bK.Oe,fun t h1 h2=>?_,fun x hx=>bK.pend x (List.mem_filter.1 hx).1,
   fun x hx=>bK.Bu x (List.mem_filter.1 hx).1,fun x hx y hy hne=>bK.uu x (List.mem_filter.1 hx).1 y ((List.mem_filter.1 hy).1) hne,fun x hx p hp=>bK.ue x (List.mem_filter.1 hx).1 p hp⟩
  ·rw [oI (by rw [bK.size];exact hi),bK.Gf i hi]
   constructor
   ·rintro ⟨h|h,hne⟩
    ·exact .inl h
    ·obtain ⟨x,hx,rfl⟩:=List.mem_map.1 h;exact .inr (List.mem_map.2 ⟨x,List.mem_filter.2 ⟨hx,by simpa using hne⟩,rfl⟩)
   ·rintro (h|h)
    ·refine ⟨.inl h,?_⟩;rintro rfl
     rcases hL with hL|hL
     ·exact hL h.1
     ·exact h.2 hL
    ·obtain ⟨x,hx,rfl⟩:=List.mem_map.1 h;obtain ⟨hx1,hx2⟩:=List.mem_filter.1 hx;exact ⟨.inr (List.mem_map.2 ⟨x,hx1,rfl⟩),by simpa using hx2⟩
  ·by_cases hd:o.dst=some t
   ·by_cases hlt:t<a.tmps.size
    ·rw [hd,put_eq _ _ (by rw [bK.Oe];exact hlt),hv t hd hlt]
    ·rw [bZ (by rw [gZ,bK.Oe];exact dL hlt),bZ (dL hlt)]
   ·rw [mP _ _ hd];refine bK.agree t (fun x hx=>?_) h2
    by_cases he:x.2=u.2
    ·rw [he,gU ho];exact hd
    ·exact h1 x (List.mem_filter.2 ⟨hx,by simpa using he⟩)
 rw [gU ho] at hK;have hKv:=hK _ hI;unfold wpOp;simp only [ho];rw [hwt]
 rcases hrun with ⟨hw1,hw2⟩|⟨hw1,rfl⟩
 ·simp only [hw1,if_true];refine .inl ?_;unfold Oper.wp;rw [hev,hw2 w fun _=>hZ.refl _];exact hKv
 ·simp only [hw1,dJ,if_false];exact hKv
theorem Fh {N:Nat} (hZ:Y4 N eZ) (hs:Region.noSelect ops=true) (Uj:Led ops)
  (hQ:∀ c (a s:Act) w,s.defers=a.defers→Q (.panic c) a w→Q (.panic c) s w) :
  ∀ (fuel:Nat) (is:List (K × Nat)) (U:List (Bool × Nat)) (listed:Array Bool) (s a:Act) (w:World),
   is.length+U.length≤fuel→Inv eZ P ops (is.map (·.2)) U [] listed s a w→jD ops is=true→is.all (·.1.isFin)=true→(is.map (·.2)).Nodup →
   (∀ u∈U,u.2∉is.map (·.2))→(∀ u∈U,∀ q∈is,mQ ops (if u.1 then .pure else .read,u.2) q=true) →
   wpOps P ops Q (is.map (·.2)) a w→wpAny P .any ops Q fuel listed s w:=by
 intro fuel
 induction fuel with
 | zero =>
  intro is U listed s a w hm bK hok hfin hnd vF hpr h;have h1:is=[]:=List.length_eq_zero_iff.1 zo;have h2:U=[]:=List.length_eq_zero_iff.1 zo;subst h1 h2;have hsa:s=a:=Pm bK.defers fun t=>bK.agree t zi zi;refine ⟨?_,by rw [hsa];simpa [wpOps] using h⟩;cases hr:Region.ready .any ops listed with
  | nil=>rfl
  | cons r rs =>
   have hm:r∈Region.ready .any ops listed:=by rw [hr];simp
   have:=(bK.Gf r (xJ hm)).1 (iy hm).choose_spec.2.1;simp at this
 | succ fuel ih =>
  intro is U listed s a w hm bK hok hfin hnd vF hpr h;refine ⟨fun hr=>?_,fun r hr=>?_⟩
  ·have hall:=Uj _ bK.size hr
   have h1:is=[]:=by
    cases is with
    | nil=>rfl
    | cons x xs =>
     unfold jD at hok;simp only [aK] at hok
     have hlt:x.2<ops.size:=by
      have:=hok.1.2;cases hx:ops[x.2]? with
      | none=>simp [hx] at this
      | some o=>exact (Array.getElem?_eq_some_iff.1 hx).1
     have:=(bK.Gf x.2 hlt).2 (.inl ⟨by simp,by simp⟩);rw [hall x.2 hlt] at this;cases this
   have h2:U=[]:=by
    cases U with
    | nil=>rfl
    | cons x xs =>
     obtain ⟨o,ho,_⟩:=bK.pend x zi;have hlt:=(Array.getElem?_eq_some_iff.1 ho).1;have:=(bK.Gf x.2 hlt).2 (.inr zi);rw [hall x.2 hlt] at this;cases this
   subst h1 h2;have hsa:s=a:=Pm bK.defers fun t=>bK.agree t zi zi;rw [hsa];simpa [wpOps] using h
  ·obtain ⟨o,ho,hun,Ui⟩:=iy hr
   rcases (bK.Gf r (xJ hr)).1 hun with ⟨hL,_⟩|hU
   ·cases is with
    | nil=>simp at hL
    | cons x xs =>
     have hxi:r=x.2:=by
      simp only [bL,dR] at hL
      rcases hL with hL|hL
      ·exact hL
      ·exfalso
       obtain ⟨q,hq,rfl⟩:=List.mem_map.1 hL;unfold jD at hok;simp only [gW,aK] at hfin;have hk:x.1= .fin:=by cases hk:x.1<;>simp [K.isFin,hk] at hfin ⊢
       obtain ⟨k,i⟩:=x;simp only at hk;subst hk;simp only [aK] at hok;have hb:=List.all_eq_true.1 hok.1.1.2 q hq;unfold SW.blocked at hb;have hqf:=List.all_eq_true.1 hfin.2 q hq;have hqa:q.1.jd=false:=by cases hk:q.1<;>simp [K.isFin,K.jd,hk] at hqf ⊢
       simp only [hqa,Bool.false_or,Bool.or_eq_true] at hb
       rcases hb with hb|hb
       ·refine iB hr hb ((bK.Gf i ?_).2 (.inl ⟨by simp,by simp⟩));have:=hok.1.2;cases hx:ops[i]? with
        | none=>simp [hx] at this
        | some o=>exact (Array.getElem?_eq_some_iff.1 hx).1
       ·obtain ⟨y,hy,hy2⟩:=List.any_eq_true.1 hb;simp only [aK] at hy2;obtain ⟨e,he1,he2,he3⟩:=vg ho hy2.2
        by_cases hlt:y.2<ops.size
        ·exact iB hr hy2.2 ((bK.Gf y.2 hlt).2 (.inl ⟨by simp;exact .inr ⟨y.1,hy⟩,by simp⟩))
        ·have:=Ui e he1 he2;rw [he3] at this;simp [bK.size,dL hlt] at this
     subst hxi
     have hpure:∀ u∈U,u.1=true∧fwd ops u.2 x.2=true:=fun u hu=>by
      have hp:=hpr u hu x zi;have hxf:x.1.isFin=true:=by simp only [gW,aK] at hfin;exact hfin.1
      unfold mQ at hp;simp only [hxf,if_true,Bool.or_eq_true,aK] at hp
      rcases hp with hp|hp
      ·exfalso
       have hl:=Dm bK.closed _ _ _ hp fun o' ho'=>by rw [ho] at ho';cases ho';exact Ui
       obtain ⟨o2,h2,_⟩:=bK.pend u hu;have:=(bK.Gf u.2 (Array.getElem?_eq_some_iff.1 h2).1).2 (.inr (List.mem_map.2 ⟨u,hu,rfl⟩));rw [getD_both this] at hl;cases hl
      ·refine ⟨?_,hp.2⟩;cases hu1:u.1<;>simp [hu1,K.isPure] at hp ⊢
     have Fy:∀ t,t∈o.looksAt ops→s.tmps[t]? =a.tmps[t]? :=fun t ht=>by
      refine bK.agree t (fun u hu hd=>?_) zi;have hf:=(hpure u hu).2;cases hx:ops[u.2]? with
      | none=>simp [qb,hx] at hd
      | some y =>
       have he:=(mV hx ho hf).2 t (by rw [gU hx] at hd;exact hd) ht;exact iB hr he ((bK.Gf u.2 (Array.getElem?_eq_some_iff.1 hx).1).2 (.inr (List.mem_map.2 ⟨u,hu,rfl⟩)))
     simp only [bL] at h;rw [wpOps_cons] at h;refine Bo ho (fun cs b=>Region.noSelect_spec hs x.2 o cs b ho) Fy bK.defers hQ (fun ds v w' hk=>?_) h;have hxf:x.1.isFin=true:=by simp only [gW,aK] at hfin;exact hfin.1
     refine ih xs U (listed.setIfInBounds x.2 true) _ ({ a with defers:=ds }.put o.dst v) w' (by simp at hm;omega) ?_ (by unfold jD at hok;simp only [aK] at hok;exact hok.2) (by simp only [gW,aK] at hfin;exact hfin.2) (by simp at hnd;simpa using hnd.2)
      (fun u hu hm=>vF u hu (by simp only [bL,dR];exact .inr hm)) (fun u hu q hq=>hpr u hu q (by simp [hq])) hk
     refine ⟨by simpa using bK.size,fun i hi=>?_,su bK.closed ho Ui,by simp [mh],by rw [gZ,gZ];exact bK.Oe,fun t h1 h2=>?_,fun u hu=>?_,bK.Bu,bK.uu,by simp⟩
     ·rw [oI (by rw [bK.size];exact hi),bK.Gf i hi];simp only [bL,dR,gY,List.not_mem_nil,not_false_eq_true,and_true];have hnd':x.2∉xs.map (·.2):=by rw [bL,List.nodup_cons] at hnd;exact hnd.1
      constructor
      ·rintro ⟨(h|h)|h,hne⟩
       ·exact absurd h hne
       ·exact .inl h
       ·exact .inr h
      ·rintro (h|h)
       ·exact ⟨.inl (.inr h),fun e=>hnd' (by rw [← e];exact h)⟩
       ·obtain ⟨u,hu,rfl⟩:=List.mem_map.1 h;exact ⟨.inr h,fun e=>vF u hu (by simp [e])⟩
     ·by_cases hd:o.dst=some t
      ·by_cases hlt:t<a.tmps.size
       ·rw [hd,put_eq _ _ (by exact Nat.lt_of_lt_of_eq hlt bK.Oe.symm),put_eq _ _ (by exact hlt)]
       ·rw [bZ (by rw [gZ];exact bK.Oe ▸ dL hlt),bZ (by rw [gZ];exact dL hlt)]
      ·rw [mP _ _ hd,mP _ _ hd];exact bK.agree t h1 zi
     ·have hf:=(hpure u hu).2;have h3:Ie eZ P ops u { a with defers:=ds } w:=bK.pend u hu
      exact (h3.put hs v fun o' ho' d hd=>(mV ho' ho hf).1 d hd).later hZ fun hu1=>by rw [(hpure u hu).1] at hu1;cases hu1
   ·obtain ⟨u,hu,rfl⟩:=List.mem_map.1 hU;refine zQ hZ hs bK hr hU (.inl (vF u hu)) fun v' I'=>?_;refine ih is _ _ _ a w ?_ I' hok hfin hnd (fun x hx=>vF x (List.mem_filter.1 hx).1) (fun x hx=>hpr x (List.mem_filter.1 hx).1) h;have:(U.filter (fun x=>x.2 != u.2)).length<U.length:=List.length_filter_lt_length_iff_exists.2 ⟨u,hu,by simp⟩;omega
theorem BS (hs:Region.noSelect ops=true) (Uj:Led ops)
  (hQ:∀ c (a s:Act) w,s.defers=a.defers→Q (.panic c) a w→Q (.panic c) s w) (N:Nat) (hZ:Y4 N eZ) :
  ∀ (fuel:Nat) (is:List (K × Nat)) (A:List Nat) (U:List (Bool × Nat)) (E:List (Nat × Nat)) (listed:Array Bool) (s a:Act) (w:World),
   fP is E+U.length≤fuel→Inv eZ P ops (is.map (·.2)) U E listed s a w→jD ops is=true→(is.map (·.2)).Nodup →
   (∀ u∈U,u.2∉is.map (·.2))→(∀ u∈U,∀ q∈is,mQ ops (if u.1 then .pure else .read,u.2) q=true) →
   rD P ops is→Early ops N is A E s a w →
   walk eZ P ops Q N is A a w→wpAny P .any ops Q fuel listed s w:=by
 intro fuel
 induction fuel using gL with
 | _ fuel ihf =>
 intro is
 induction is with
 | nil =>
  intro A U E listed s a w hm bK hok hnd vF hpr hal he h
  have hE:E=[]:=by
   cases E with
   | nil=>rfl
   | cons p ps=>obtain ⟨cs,T,hmem,_⟩:=he.good p zi;cases hmem
  subst hE;exact Fh hZ hs Uj hQ fuel [] U listed s a w (by simp [fP] at hm;simpa using hm) bK rfl rfl zi zi zi (by simp only [gY,wpOps];exact h w (Below.refl _ _))
 | cons x xs ihl =>
  intro A U E listed s a w hm bK hok hnd vF hpr hal he h;obtain ⟨k,i⟩:=x;have hrest:jD ops xs=true:=by unfold jD at hok;simp only [aK] at hok;exact hok.2
  obtain ⟨o,ho⟩:∃ o,ops[i]? =some o:=by
   unfold jD at hok;simp only [aK] at hok;exact Option.isSome_iff_exists.1 hok.1.2
  have hilt:i<ops.size:=(Array.getElem?_eq_some_iff.1 ho).1;have GY:i∉xs.map (·.2)∧(xs.map (·.2)).Nodup:=by simpa only [bL,List.nodup_cons] using hnd
  have hpx:k.isFin=false→∀ q∈xs,mQ ops (k,i) q=true:=fun hk=>by
   unfold jD at hok;cases k<;>simp [K.isFin] at hk<;>simp only [aK] at hok
   ·exact fun q hq=>List.all_eq_true.1 hok.1.1.2 q hq
   ·exact fun q hq=>List.all_eq_true.1 hok.1.1.2 q hq
   ·exact fun q hq=>List.all_eq_true.1 hok.1.1.1 q hq
   ·exact fun q hq=>List.all_eq_true.1 hok.1.1.1 q hq
  have hUf:k.isFin=false→∀ u∈U,fwd ops u.2 i=true:=fun hk u hu=>by
   have:=hpr u hu (k,i) zi;unfold mQ at this
   simpa [hk] using this
  have advance:∀ (b:Bool) (v:Value),k.isFin=false→k.jd=false→k.isPure=b→wu ops i=true→i∉E.map (·.1) →
    ((Region.wanted o (yielded ops a.tmps)=true∧∀ w',(b=false→eZ w w')→(execOp a.eval o).run P w'= .ok (.value v) w')∨(Region.wanted o (yielded ops a.tmps)=false∧v=undef)) →
    (k= .pure∨k= .read)→walk eZ P ops Q N xs A (a.put o.dst v) w→wpAny P .any ops Q fuel listed s w:=fun b v hkf hka hkb hself RV hrun hkk hw=>by
   have hxl:∀ d,o.dst=some d→d∉o.looksAt ops:=fun d hd hm=>by unfold wu at hself;simp only [ho,hd] at hself;simp [hm] at hself
   have hl:∀ t,t∈o.looksAt ops→(a.put o.dst v).tmps[t]? =a.tmps[t]? :=fun t ht=>mP a v fun e=>hxl t e ht;refine ihl A ((b,i)::U) E listed s (a.put o.dst v) w ?_ ?_ hrest GY.2 ?_ ?_ (fun cs T j hj=>hal cs T j (by simp [hj])) ?_ hw
   ·have:fP ((k,i)::xs) E=fP xs E+1:=by
     unfold fP;rw [List.filter_cons_of_pos (by simpa using RV)];rfl
    simp only [bg];omega
   ·refine ⟨bK.size,fun j hj=>?_,bK.closed,by rw [mh];exact bK.defers,by rw [gZ];exact bK.Oe,fun t h1 h2=>?_,fun u hu=>?_,fun u hu=>?_,fun u hu v' hv hne=>?_,fun u hu p hp=>?_⟩
    ·rw [bK.Gf j hj];simp only [bL,dR]
     constructor
     ·rintro (⟨h|h,h2⟩|h)
      ·exact .inr (.inl h)
      ·exact .inl ⟨h,h2⟩
      ·exact .inr (.inr h)
     ·rintro (⟨h,h2⟩|h|h)
      ·exact .inl ⟨.inr h,h2⟩
      ·exact .inl ⟨.inl h,by rw [h];exact RV⟩
      ·exact .inr h
    ·have hd:o.dst≠some t:=by have:=h1 (b,i) zi;rwa [gU ho] at this
     rw [mP _ _ hd];exact bK.agree t (fun u hu=>h1 u (by simp [hu])) h2
    ·rcases List.mem_cons.1 hu with hu|hu
     ·subst hu;refine ⟨o,ho,v,fun d hd hlt=>?_,?_⟩
      ·rw [hd];exact put_eq _ _ (by rwa [gZ] at hlt)
      ·rw [oD hl,rZ (fun cs b=>Region.noSelect_spec hs i o cs b ho) hl];exact hrun
     ·exact (bK.pend u hu).put hs v fun o' ho' d hd=>(mV ho' ho (hUf hkf u hu)).1 d hd
    ·rcases List.mem_cons.1 hu with hu|hu
     ·subst hu;exact hself
     ·exact bK.Bu u hu
    ·rcases List.mem_cons.1 hu with hu|hu<;>rcases List.mem_cons.1 hv with hv|hv
     ·subst hu hv;exact absurd rfl hne
     ·subst hu;exact (jV (hUf hkf v' hv)).2
     ·subst hv;exact (jV (hUf hkf u hu)).1
     ·exact bK.uu u hu v' hv hne
    ·rcases List.mem_cons.1 hu with hu|hu
     ·subst hu;obtain ⟨cs,T,hmem,_⟩:=he.good p hp
      rcases List.mem_cons.1 hmem with hmem|hmem
      ·cases hmem;simp [K.jd] at hka
      ·have:=hpx hkf _ hmem;unfold mQ at this
       simpa [K.isFin] using this
     ·exact bK.ue u hu p hp
   ·intro u hu
    rcases List.mem_cons.1 hu with hu|hu
    ·subst hu;exact GY.1
    ·intro hm;exact vF u hu (by simp only [bL,dR];exact .inr hm)
   ·intro u hu q hq
    rcases List.mem_cons.1 hu with hu|hu
    ·subst hu;have:=hpx hkf q hq
     rcases hkk with rfl|rfl<;>simp [K.isPure] at hkb<;>subst hkb<;>simpa using this
    ·exact hpr u hu q (by simp [hq])
   ·refine ⟨fun p hp=>?_,he.dist,fun p hp d hd hlt=>he.slot p hp d hd (by rwa [gZ] at hlt),he.old,he.base⟩;obtain ⟨cs,T,hmem,hg⟩:=he.good p hp;refine ⟨cs,T,?_,hg⟩
    rcases List.mem_cons.1 hmem with hmem|hmem
    ·cases hmem;simp [K.jd] at hka
    ·exact hmem
  have early:∀ (cs:Array Value) (T:TypeId) (r:Nat),(K.alloc cs T,r)∈(k,i)::xs→r∈Region.ready .any ops listed→r∉E.map (·.1)→∀ f,f<fuel→fP ((k,i)::xs) E+U.length≤f+1 →
    wpOp P ops Q r (wpAny P .any ops Q f (listed.setIfInBounds r true)) s w:=fun cs T r hmem hr hrE f hf hmf=>by
   obtain ⟨y,hy,aa6,JC⟩:=iy hr;obtain ⟨hg,hrun⟩:=hal cs T r hmem y hy;have aO1:=xJ hr;have hb:Below w.heap.size w (w.alloc (.cells cs T (0,0))):=(Below.refl _ _).alloc (aD _) _;have hsz:(w.alloc (.cells cs T (0,0))).heap.size=w.heap.size+1:=by simp
   have an9:r∈((k,i)::xs).map (·.2):=List.mem_map.2 ⟨_,hmem,rfl⟩
   have key:wpAny P .any ops Q f (listed.setIfInBounds r true) (s.put y.dst (aB (some ⟨w.heap.size,0,none⟩))) (w.alloc (.cells cs T (0,0))):=by
    refine ihf f hf ((k,i)::xs) A U ((r,w.heap.size)::E) _ _ a _ ?_ ?_ hok hnd vF hpr hal ?_ (oL hZ _ _ _ _ _ hb h)
    ·have hlt:fP ((k,i)::xs) ((r,w.heap.size)::E)<fP ((k,i)::xs) E:=by
      unfold fP
      have e:((k,i)::xs).filter (fun x=> !(((r,w.heap.size)::E).map (·.1)).contains x.2)=(((k,i)::xs).filter (fun x=> !(E.map (·.1)).contains x.2)).filter (fun x=>x.2 != r):=by
       rw [List.filter_filter]
       congr 1
       funext x
       simp only [bL,List.contains_cons,Bool.not_or];rfl
      rw [e];exact List.length_filter_lt_length_iff_exists.2 ⟨_,List.mem_filter.2 ⟨hmem,by simpa using hrE⟩,by simp⟩
     omega
    ·refine ⟨by simpa using bK.size,fun j hj=>?_,su bK.closed hy JC,by rw [mh];exact bK.defers,by rw [gZ];exact bK.Oe,fun t h1 h2=>?_,fun u hu=>(bK.pend u hu).later hZ fun _=>(by first|exact hZ.of hb|exact hb),bK.Bu,bK.uu,fun u hu p hp=>?_⟩
     ·rw [oI (by rw [bK.size];exact hj),bK.Gf j hj];simp only [bL,dR,not_or]
      constructor
      ·rintro ⟨⟨h,h2⟩|h,hne⟩
       ·exact .inl ⟨h,hne,h2⟩
       ·exact .inr h
      ·rintro (⟨h,hne,h2⟩|h)
       ·exact ⟨.inl ⟨h,h2⟩,hne⟩
       ·obtain ⟨u,hu,rfl⟩:=List.mem_map.1 h;exact ⟨.inr h,fun e=>vF u hu (e ▸ an9)⟩
     ·have hd:y.dst≠some t:=by have:=h2 (r,w.heap.size) zi;rwa [gU hy] at this
      rw [mP _ _ hd];exact bK.agree t h1 fun p hp=>h2 p (by simp [hp])
     ·rcases List.mem_cons.1 hp with hp|hp
      ·subst hp;have:=hpr u hu _ hmem;unfold mQ at this
       simpa [K.isFin] using this
      ·exact bK.ue u hu p hp
    ·refine ⟨fun p hp=>?_,fun p hp q hq hne=>?_,fun p hp d hd hlt=>?_,fun x hx=>by rw [hsz];exact Nat.lt_succ_of_lt (he.old x hx),by rw [hsz];exact Nat.le_succ_of_le he.base⟩
     ·rcases List.mem_cons.1 hp with hp|hp
      ·subst hp;exact ⟨cs,T,hmem,(by show (w.heap.push _)[w.heap.size]? =_;simp),he.base,by rw [hsz];exact Nat.lt_succ_self _,fun hA=>Nat.lt_irrefl _ (he.old _ hA)⟩
      ·obtain ⟨cs',T',hm',hh,h1,h2,h3⟩:=he.good p hp;exact ⟨cs',T',hm',by rw [Below.heap_alloc _ _ _ h2];exact hh,h1,by rw [hsz];exact Nat.lt_succ_of_lt h2,h3⟩
     ·rcases List.mem_cons.1 hp with hp|hp<;>rcases List.mem_cons.1 hq with hq|hq
      ·subst hp hq;exact absurd rfl hne
      ·subst hp;obtain ⟨_,_,_,_,_,h2,_⟩:=he.good q hq;exact fun e=>by simp only at e;omega
      ·subst hq;obtain ⟨_,_,_,_,_,h2,_⟩:=he.good p hp;exact fun e=>by simp only at e;omega
      ·exact he.dist p hp q hq hne
     ·rcases List.mem_cons.1 hp with hp|hp
      ·subst hp;rw [gU hy] at hd;rw [hd];exact put_eq _ _ (by exact Nat.lt_of_lt_of_eq hlt bK.Oe.symm)
      ·obtain ⟨cs',T',hm',_⟩:=he.good p hp;have hne:p.1≠r:=fun e=>hrE (e ▸ List.mem_map.2 ⟨p,hp,rfl⟩);have hc:=vK _ hok _ hm' _ hmem rfl rfl hne;rw [mP _ _ (fun e=>hc.1 d hd (by rw [gU hy];exact e))];exact he.slot p hp d hd hlt
   unfold wpOp;simp only [hy,Region.wanted,hg,if_true];refine .inl ?_;unfold Oper.wp;rw [hrun];exact key
  have hcount:i∉E.map (·.1)→1≤fuel:=fun RV=>by
   have:fP ((k,i)::xs) E=fP xs E+1:=by
    unfold fP;rw [List.filter_cons_of_pos (by simpa using RV)];rfl
   omega
  have hinj:∀ (l:List (K × Nat)),(l.map (·.2)).Nodup→∀ x∈l,∀ y∈l,x.2=y.2→x=y:=by
   intro l
   induction l with
   | nil=>intro _ x hx;cases hx
   | cons c l ihh =>
    intro hn x hx0 y hy0 hxy;rw [bL,List.nodup_cons] at hn
    rcases List.mem_cons.1 hx0 with hx|hx<;>rcases List.mem_cons.1 hy0 with hy|hy
    ·rw [hx,hy]
    ·exact absurd (List.mem_map.2 ⟨y,hy,by rw [← hxy,hx]⟩) hn.1
    ·exact absurd (List.mem_map.2 ⟨x,hx,by rw [hxy,hy]⟩) hn.1
    ·exact ihh hn.2 x hx y hy hxy
  have actual:(k= .ext∨k.jd=true)→i∉E.map (·.1)→xs.all (SW.blocked ops i xs)=true →
    (∀ f,fuel=f+1→i∈Region.ready .any ops listed→wpOp P ops Q i (wpAny P .any ops Q f (listed.setIfInBounds i true)) s w)→wpAny P .any ops Q fuel listed s w:=fun hk RV hbl hhead=>by
   obtain ⟨f,rfl⟩:∃ f,fuel=f+1:=⟨fuel - 1,by have:=hcount RV;omega⟩;have an6:listed.getD i true=false:=(bK.Gf i hilt).2 (.inl ⟨by simp,RV⟩);refine ⟨fun hr=>?_,fun r hr=>?_⟩
   ·exfalso
    have:=Uj _ bK.size hr i hilt;rw [an6] at this;cases this
   ·obtain ⟨y,hy,aa6,JC⟩:=iy hr
    rcases (bK.Gf r (xJ hr)).1 aa6 with ⟨hL,hrE⟩|hU
    ·simp only [bL,dR] at hL
     rcases hL with hL|hL
     ·subst hL;exact hhead f rfl hr
     ·obtain ⟨q,hq,rfl⟩:=List.mem_map.1 hL;have hb:=List.all_eq_true.1 hbl q hq;unfold SW.blocked at hb;simp only [Bool.or_eq_true] at hb
      rcases hb with (hb|hb)|hb
      ·obtain ⟨kq,jq⟩:=q;cases kq with
       | alloc cs T=>exact early cs T jq (by simp [hq]) hr hrE f (Nat.lt_succ_self _) zo
       | _=>simp [K.jd] at hb
      ·exact (iB hr hb an6).elim
      ·obtain ⟨z,hz,hz2⟩:=List.any_eq_true.1 hb;simp only [aK,jh] at hz2;obtain ⟨e,he1,he2,he3⟩:=vg hy hz2.2
       by_cases hlt:z.2<ops.size
       ·refine (iB hr hz2.2 ((bK.Gf z.2 hlt).2 (.inl ⟨by simp;exact .inr ⟨z.1,hz⟩,fun hzE=>?_⟩))).elim;obtain ⟨p,hp,hpe⟩:=List.mem_map.1 hzE;obtain ⟨cs,T,hmem,_⟩:=he.good p hp;have hmem':(K.alloc cs T,z.2)∈(k,i)::xs:=by rw [← hpe];exact hmem
        rcases List.mem_cons.1 hmem' with h3|h3
        ·have:z.2=i:=by cases h3;rfl
         exact GY.1 (this ▸ List.mem_map.2 ⟨z,hz,rfl⟩)
        ·have:z=(K.alloc cs T,z.2):=by
          exact hinj xs GY.2 z hz _ h3 rfl
         rw [this] at hz2;simp [K.jd] at hz2
       ·have:=JC e he1 he2;rw [he3] at this;simp [bK.size,dL hlt] at this
    ·obtain ⟨u,hu,rfl⟩:=List.mem_map.1 hU;refine zQ hZ hs bK hr hU (.inl (vF u hu)) fun v' I'=>?_;refine ihf f (Nat.lt_succ_self _) ((k,i)::xs) A _ E _ _ a w ?_ I' hok hnd (fun x hx=>vF x (List.mem_filter.1 hx).1) (fun x hx=>hpr x (List.mem_filter.1 hx).1) hal ?_ h
     ·have:(U.filter (fun x=>x.2 != u.2)).length<U.length:=List.length_filter_lt_length_iff_exists.2 ⟨u,hu,by simp⟩;omega
     ·refine ⟨he.good,he.dist,fun p hp d hd hlt=>?_,he.old,he.base⟩;have hc:=(jV (bK.ue u hu p hp)).2;rw [mP _ _ (fun e=>hc.1 d hd e)];exact he.slot p hp d hd hlt
  have xY:k.jd=false→i∉E.map (·.1):=fun hk hm=>by
   obtain ⟨p,hp,hpe⟩:=List.mem_map.1 hm;obtain ⟨cs,T,hmem,_⟩:=he.good p hp;have:=hinj _ hnd _ hmem (k,i) zi hpe;cases this
   simp [K.jd] at hk
  have Xi:∀ p∈E,p.1≠i→∃ cs T,(K.alloc cs T,p.1)∈xs∧w.heap[p.2]? =some (.cells cs T (0,0))∧N≤p.2∧p.2<w.heap.size∧p.2∉A:=fun p hp hne=>by
   obtain ⟨cs,T,hmem,hg⟩:=he.good p hp;refine ⟨cs,T,?_,hg⟩
   rcases List.mem_cons.1 hmem with hmem|hmem
   ·cases hmem;exact absurd rfl hne
   ·exact hmem
  unfold walk at h;simp only [ho] at h;cases k with
  | pure =>
   simp only at h;have hself:wu ops i=true:=by unfold jD at hok;simp only [aK] at hok;exact hok.1.1.1
   split at h
   ·rename_i hw;obtain ⟨v,h1,h2⟩:=h;exact advance true v rfl rfl rfl hself (xY rfl) (.inl ⟨hw,fun w' _=>h1 w'⟩) (.inl rfl) h2
   ·rename_i hw;exact advance true undef rfl rfl rfl hself (xY rfl) (.inr ⟨by simpa using hw,rfl⟩) (.inl rfl) h
  | read =>
   simp only at h;have hself:wu ops i=true:=by unfold jD at hok;simp only [aK] at hok;exact hok.1.1.1
   split at h
   ·rename_i hw;obtain ⟨v,h1,h2⟩:=h;exact advance false v rfl rfl rfl hself (xY rfl) (.inl ⟨hw,fun w' hb=>h1 w' (hb rfl)⟩) (.inr rfl) h2
   ·rename_i hw;exact advance false undef rfl rfl rfl hself (xY rfl) (.inr ⟨by simpa using hw,rfl⟩) (.inr rfl) h
  | fin =>
   have hfin:xs.all (·.1.isFin)=true:=by unfold jD at hok;simp only [aK] at hok;exact hok.1.1.1
   have hE:E=[]:=by
    cases E with
    | nil=>rfl
    | cons p ps =>
     obtain ⟨cs,T,hmem,_⟩:=he.good p zi
     rcases List.mem_cons.1 hmem with hmem|hmem
     ·cases hmem
     ·have:=List.all_eq_true.1 hfin _ hmem;simp [K.isFin] at this
   subst hE;exact Fh hZ hs Uj hQ fuel ((.fin,i)::xs) U listed s a w (by rw [qI] at hm;exact hm) bK hok (by rw [gW,hfin];rfl) hnd vF hpr (h w (Below.refl _ _))
  | ext =>
   have hbl:xs.all (SW.blocked ops i xs)=true:=by unfold jD at hok;simp only [aK] at hok;exact hok.1.1.2
   refine actual (.inl rfl) (xY rfl) hbl fun f hf hr=>?_;obtain ⟨y,hy,aa6,JC⟩:=iy hr;rw [ho] at hy;cases hy
   have Fy:∀ t,t∈o.looksAt ops→s.tmps[t]? =a.tmps[t]? :=fun t ht=>by
    refine bK.agree t (fun u hu hd=>?_) (fun p hp hd=>?_)
    ·have hf:=hUf rfl u hu;cases hx:ops[u.2]? with
     | none=>simp [qb,hx] at hd
     | some y =>
      have he':=(mV hx ho hf).2 t (by rw [gU hx] at hd;exact hd) ht;exact iB hr he' ((bK.Gf u.2 (Array.getElem?_eq_some_iff.1 hx).1).2 (.inr (List.mem_map.2 ⟨u,hu,rfl⟩)))
    ·obtain ⟨cs,T,hmem,_⟩:=Xi p hp fun e=>xY rfl (e ▸ List.mem_map.2 ⟨p,hp,rfl⟩);have hf:=hpx rfl _ hmem;unfold mQ at hf;simp only [K.isFin,dJ,if_false] at hf;cases hx:ops[p.1]? with
     | none=>simp [qb,hx] at hd
     | some y=>exact ((mV ho hx hf).1 t (by rw [gU hx] at hd;exact hd)).1 ht
   have h':wpOp P ops Q i (fun a' w''=>eZ w w''∧walk eZ P ops Q N xs A a' w'') a w:=by
    unfold wpOp;simp only [ho];simp only at h;split at h
    ·rename_i hw;simp only [hw,if_true];exact .inl (h w (Below.refl _ _))
    ·rename_i hw;simp only [hw,dJ,if_false];exact ⟨hZ.refl _,h⟩
   refine Bo ho (fun cs b=>Region.noSelect_spec hs i o cs b ho) Fy bK.defers hQ (fun ds v w' hk=>?_) h';obtain ⟨hb,hk⟩:=hk
   have aP1:fP ((.ext,i)::xs) E=fP xs E+1:=by
    unfold fP;rw [List.filter_cons_of_pos (by simpa using xY rfl)];rfl
   refine ihf f zo xs A U E _ _ ({ a with defers:=ds }.put o.dst v) w' zo ?_ hrest GY.2 (fun u hu hm=>vF u hu (by simp only [bL,dR];exact .inr hm)) (fun u hu q hq=>hpr u hu q (by simp [hq]))
    (fun cs T j hj=>hal cs T j (by simp [hj])) ?_ hk
   ·refine ⟨by simpa using bK.size,fun j hj=>?_,su bK.closed ho JC,by simp [mh],by rw [gZ,gZ];exact bK.Oe,fun t h1 h2=>?_,fun u hu=>?_,bK.Bu,bK.uu,bK.ue⟩
    ·rw [oI (by rw [bK.size];exact hj),bK.Gf j hj];simp only [bL,dR]
     constructor
     ·rintro ⟨⟨h|h,h2⟩|h,hne⟩
      ·exact absurd h hne
      ·exact .inl ⟨h,h2⟩
      ·exact .inr h
     ·rintro (⟨h,h2⟩|h)
      ·exact ⟨.inl ⟨.inr h,h2⟩,fun e=>GY.1 (e ▸ h)⟩
      ·obtain ⟨u,hu,rfl⟩:=List.mem_map.1 h;exact ⟨.inr h,fun e=>vF u hu (by simp [e])⟩
    ·by_cases hd:o.dst=some t
     ·by_cases hlt:t<a.tmps.size
      ·rw [hd,put_eq _ _ (by exact Nat.lt_of_lt_of_eq hlt bK.Oe.symm),put_eq _ _ (by exact hlt)]
      ·rw [bZ (by rw [gZ];exact bK.Oe ▸ dL hlt),bZ (by rw [gZ];exact dL hlt)]
     ·rw [mP _ _ hd,mP _ _ hd];exact bK.agree t h1 h2
    ·have h3:Ie eZ P ops u { a with defers:=ds } w:=bK.pend u hu
     exact (h3.put hs v fun o' ho' d hd=>(mV ho' ho (hUf rfl u hu)).1 d hd).later hZ fun _=>(by first|exact hZ.of hb|exact hb)
   ·refine ⟨fun p hp=>?_,he.dist,fun p hp d hd hlt=>?_,fun x hx=>aI (he.old x hx) (hZ.size hb),ay he.base (hZ.size hb)⟩
    ·obtain ⟨cs,T,hmem,hh,h1,h2,h3⟩:=Xi p hp fun e=>xY rfl (e ▸ List.mem_map.2 ⟨p,hp,rfl⟩);exact ⟨cs,T,hmem,by rw [hZ.block hb _ h1 h2];exact hh,h1,aI h2 (hZ.size hb),h3⟩
    ·obtain ⟨cs,T,hmem,_⟩:=Xi p hp fun e=>xY rfl (e ▸ List.mem_map.2 ⟨p,hp,rfl⟩);have hf:=hpx rfl _ hmem;unfold mQ at hf;simp only [K.isFin,dJ,if_false] at hf;have hc:=(jV hf).2;rw [mP _ _ (fun e=>hc.1 d hd (by rw [gU ho];exact e))];exact he.slot p hp d hd (by rwa [gZ] at hlt)
  | alloc cs T =>
   have hbl:xs.all (SW.blocked ops i xs)=true:=by unfold jD at hok;simp only [aK] at hok;exact hok.1.1.2
   by_cases RV:i∈E.map (·.1)
   ·obtain ⟨p,hp,hpi⟩:=List.mem_map.1 RV;obtain ⟨cs',T',hmem,hh,h1,h2,h3⟩:=he.good p hp;have hsame:=hinj _ hnd _ hmem (.alloc cs T,i) zi hpi;have e1:cs'=cs:=by injection hsame with a b;injection a
    have e2:T'=T:=by injection hsame with a b;injection a
    subst e1 e2;have hk:=h p.2 w (Below.refl _ _) h1 h2 h3 hh;have an7:∀ d,o.dst=some d→d<a.tmps.size→s.tmps[d]? =some (.pointer (some ⟨p.2,0,none⟩)):=fun d hd hlt=>he.slot p hp d (by rw [hpi,gU ho];exact hd) hlt
    refine ihl (p.2::A) U (E.filter (fun x=>x.1 != i)) listed s (a.put o.dst (aB (some ⟨p.2,0,none⟩))) w ?_ ?_ hrest GY.2 (fun u hu hm=>vF u hu (by simp only [bL,dR];exact .inr hm)) (fun u hu q hq=>hpr u hu q (by simp [hq]))
     (fun cs T j hj=>hal cs T j (by simp [hj])) ?_ hk
    ·have:fP xs (E.filter (fun x=>x.1 != i))=fP ((.alloc cs' T',i)::xs) E:=by
      unfold fP;rw [List.filter_cons_of_neg (by simpa using RV)]
      congr 1
      refine List.filter_congr fun x hx=>?_;have hxi:x.2≠i:=fun e=>GY.1 (e ▸ List.mem_map.2 ⟨x,hx,rfl⟩)
      congr 1
      rw [iN];simp only [List.contains_iff_mem,F7,Ap,bne_iff_ne,ne_eq]
      constructor
      ·rintro ⟨y,⟨hy,_⟩,e⟩;exact ⟨y,hy,e⟩
      ·rintro ⟨y,hy,e⟩;exact ⟨y,⟨hy,fun e2=>hxi (e ▸ e2)⟩,e⟩
     omega
    ·refine ⟨bK.size,fun j hj=>?_,bK.closed,by rw [mh];exact bK.defers,by rw [gZ];exact bK.Oe,fun t h1 h2=>?_,fun u hu=>(bK.pend u hu).put hs _ fun o' ho' d hd=>(mV ho' ho (hUf rfl u hu)).1 d hd,bK.Bu,bK.uu,fun u hu q hq=>bK.ue u hu q (List.mem_filter.1 hq).1⟩
     ·rw [bK.Gf j hj];simp only [bL,dR,F7,Ap,bne_iff_ne,ne_eq]
      constructor
      ·rintro (⟨h|h,h2⟩|h)
       ·subst h;exact absurd ⟨p,hp,hpi⟩ h2
       ·exact .inl ⟨h,fun ⟨y,⟨hy,_⟩,e⟩=>h2 ⟨y,hy,e⟩⟩
       ·exact .inr h
      ·rintro (⟨h,h2⟩|h)
       ·refine .inl ⟨.inr h,fun ⟨y,hy,e⟩=>h2 ⟨y,⟨hy,fun e2=>?_⟩,e⟩⟩;obtain ⟨z,hz,hz2⟩:=h;exact GY.1 (List.mem_map.2 ⟨z,hz,by rw [hz2,← e,e2]⟩)
       ·exact .inr h
     ·by_cases hd:o.dst=some t
      ·by_cases hlt:t<a.tmps.size
       ·rw [hd,put_eq _ _ hlt,an7 t hd hlt]
       ·rw [bZ (by rw [bK.Oe];exact dL hlt),bZ (by rw [gZ];exact dL hlt)]
      ·rw [mP _ _ hd];refine bK.agree t h1 fun q hq Iu=>?_
       by_cases hqi:q.1=i
       ·rw [hqi,gU ho] at Iu;exact hd Iu
       ·exact h2 q (List.mem_filter.2 ⟨hq,by simpa using hqi⟩) Iu
    ·refine ⟨fun q hq=>?_,fun q hq r hr=>he.dist q (List.mem_filter.1 hq).1 r (List.mem_filter.1 hr).1,fun q hq d hd hlt=>he.slot q (List.mem_filter.1 hq).1 d hd (by rwa [gZ] at hlt),fun x hx=>?_,he.base⟩
     ·obtain ⟨hq1,hq2⟩:=List.mem_filter.1 hq;have hqi:q.1≠i:=by simpa using hq2
      obtain ⟨cs2,T2,ao4,hh2,g1,g2,g3⟩:=Xi q hq1 hqi;refine ⟨cs2,T2,ao4,hh2,g1,g2,?_⟩;simp only [dR,not_or];exact ⟨he.dist q hq1 p hp (by rw [hpi];exact hqi),g3⟩
     ·rcases List.mem_cons.1 hx with hx|hx
      ·rw [hx];exact h2
      ·exact he.old x hx
   ·exact actual (.inr rfl) RV hbl fun f hf hr=>early cs T i zi hr RV f zo zo
theorem aJ {id:Nat} {a:Act} {w:World} (is:List (K × Nat)) {N:Nat} (hZ:Y4 N eZ) (hN:w.heap.size=N) (hm:P.follows .mixedOrders=true) (hc:check ops is=true) (hal:rD P ops is)
  (hQ:∀ c (a s:Act) w,s.defers=a.defers→Q (.panic c) a w→Q (.panic c) s w)
  (h:walk eZ P ops Q N is [] a w.drew):(Code.region id ops true).wp P Q a w:=by
 unfold check at hc;simp only [aK,decide_eq_true_eq] at hc;obtain ⟨⟨⟨⟨⟨h1,h2⟩,h3⟩,h4⟩,h5⟩,h6⟩:=hc;refine wp_region_any hm ?_;refine BS h1 (Z0 h2) hQ N hZ ops.size is [] [] [] _ a a w.drew ?_ ?_ h3 h4 zi zi hal ?_ h
 ·rw [qI];exact h5
 ·refine ⟨by simp,fun i hi=>?_,fun j o hj hl=>?_,rfl,rfl,fun t _ _=>rfl,by simp,by simp,by simp,by simp⟩
  ·have hmem:i∈is.map (·.2):=by simpa using List.all_eq_true.1 h6 i (List.mem_range.2 hi)
   simp [hi] 
   simpa using hmem
  ·have hj':=(Array.getElem?_eq_some_iff.1 hj).1;simp [hj'] at hl
 ·exact ⟨by simp,by simp,by simp,by simp,Nat.le_of_eq hN.symm⟩
variable {N:Nat} {is:List (K × Nat)} {i:Nat} {A:List Nat} {a:Act} {w:World} {o:Oper}
theorem eX {cs:Array Value} {T:TypeId} (ho:ops[i]? =some o) (h:∀ b w',Below w.heap.size w w'→N≤b→b<w'.heap.size→b∉A→w'.heap[b]? =some (.cells cs T (0,0))→walk eZ P ops Q N is (b::A) (a.put o.dst (aB (some ⟨b,0,none⟩))) w'):walk eZ P ops Q N ((.alloc cs T,i)::is) A a w:=by
 unfold walk;simp only [ho];exact h
end
end Go.Ia
namespace Go.SW
open Go Go.RowKit
section
variable (P:Program) (ops:Array Oper) (Q:Exit→Act→World→Prop)
def walk (N:Nat):List (K × Nat)→List Nat→Act→World→Prop
 | [],_,a,w=>∀ w',Below w.heap.size w w'→Q .normal a w'
 | (k,i)::is,A,a,w =>
  match ops[i]? with
  | none=>False
  | some o =>
   match k with
   | .pure=>if Region.wanted o (yielded ops a.tmps) then ∃ v,(∀ w',(execOp a.eval o).run P w'= .ok (.value v) w')∧walk N is A (a.put o.dst v) w else walk N is A (a.put o.dst undef) w
   | .read=>if Region.wanted o (yielded ops a.tmps) then ∃ v,(∀ w',Below w.heap.size w w'→(execOp a.eval o).run P w'= .ok (.value v) w')∧walk N is A (a.put o.dst v) w else walk N is A (a.put o.dst undef) w
   | .alloc cs T=>∀ b w',Below w.heap.size w w'→N≤b→b<w'.heap.size→b∉A→w'.heap[b]? =some (.cells cs T (0,0))→walk N is (b::A) (a.put o.dst (aB (some ⟨b,0,none⟩))) w'
   | .ext=>if Region.wanted o (yielded ops a.tmps) then ∀ w',Below w.heap.size w w'→o.wp P a w' (fun a' w''=>Below w'.heap.size w' w''∧walk N is A a' w'') Q else walk N is A (a.put o.dst undef) w
   | .fin=>∀ w',Below w.heap.size w w'→wpOps P ops Q (i::is.map (·.2)) a w'
end
section
variable {P:Program} {ops:Array Oper} {Q:Exit→Act→World→Prop}
theorem an5 {N:Nat}:Ia.Y4 N (fun w w'=>Below w.heap.size w w'):=⟨fun _=>Below.refl _ _,mF,id,fun h=>h.size,fun h b _ h2=>h.block b h2⟩
theorem mO {N:Nat}:∀ (is:List (K × Nat)) (A:List Nat) (a:Act) (w:World),walk P ops Q N is A a w→Ia.walk (fun w w'=>Below w.heap.size w w') P ops Q N is A a w
 | [],_,_,_,h=>h
 | (k,i)::is,A,a,w,h=>by
  unfold walk at h;unfold Ia.walk;cases ho:ops[i]? with
  | none=>simp only [ho] at h
  | some o =>
   simp only [ho] at h ⊢;cases k with
   | pure =>
    simp only at h ⊢;split at h
    ·rename_i hw;simp only [hw,if_true];obtain ⟨v,h1,h2⟩:=h;exact ⟨v,h1,mO is _ _ _ h2⟩
    ·rename_i hw;simp only [hw,if_false,dJ];exact mO is _ _ _ h
   | read =>
    simp only at h ⊢;split at h
    ·rename_i hw;simp only [hw,if_true];obtain ⟨v,h1,h2⟩:=h;exact ⟨v,h1,mO is _ _ _ h2⟩
    ·rename_i hw;simp only [hw,if_false,dJ];exact mO is _ _ _ h
   | alloc cs T=>exact fun b w' h1 h2 h3 h4 h5=>mO is _ _ _ (h b w' h1 h2 h3 h4 h5)
   | ext =>
    simp only at h ⊢;split at h
    ·rename_i hw;simp only [hw,if_true];exact fun w' hb=>Oper.wp_mono (fun a' w'' hk=>⟨hk.1,mO is _ _ _ hk.2⟩) (h w' hb)
    ·rename_i hw;simp only [hw,if_false,dJ];exact mO is _ _ _ h
   | fin=>exact h
theorem aJ {id:Nat} {a:Act} {w:World} (is:List (K × Nat)) (hm:P.follows .mixedOrders=true) (hc:check ops is=true) (hal:rD P ops is)
  (hQ:∀ c (a s:Act) w,s.defers=a.defers→Q (.panic c) a w→Q (.panic c) s w)
  (h:walk P ops Q w.heap.size is [] a w.drew):(Code.region id ops true).wp P Q a w:=Ia.aJ is an5 rfl hm hc hal hQ (mO _ _ _ _ h)
section
variable {N:Nat} {is:List (K × Nat)} {i:Nat} {A:List Nat} {a:Act} {w:World} {o:Oper}
theorem walk_nil (h:∀ w',Below w.heap.size w w'→Q .normal a w'):walk P ops Q N [] A a w:=h
theorem PW (ho:ops[i]? =some o) (h:∀ J:Act→Prop,(∀ a,walk P ops Q N is A a w→J a) →
  if Region.wanted o (yielded ops a.tmps) then ∃ v,(∀ w',(execOp a.eval o).run P w'= .ok (.value v) w')∧J (a.put o.dst v) else J (a.put o.dst undef)):walk P ops Q N ((.pure,i)::is) A a w:=by
 unfold walk;simp only [ho];exact h (fun a=>walk P ops Q N is A a w) fun _ h=>h
theorem oU (ho:ops[i]? =some o) (hg:o.guard=none) (h:∀ J:Act→Prop,(∀ a,walk P ops Q N is A a w→J a)→∃ v,(∀ w',(execOp a.eval o).run P w'= .ok (.value v) w')∧J (a.put o.dst v)):walk P ops Q N ((.pure,i)::is) A a w:=by
 unfold walk;simp only [ho,Region.wanted,hg,if_true];exact h (fun a=>walk P ops Q N is A a w) fun _ h=>h
theorem cells_of_cell {w:World} {p:Addr} (h:(w.cell? p).isSome=true):∃ cs T fr,w.heap[p.block]? =some (.cells cs T fr):=by
 unfold World.cell? at h;split at h
 ·rename_i c e f hh;exact ⟨c,e,f,hh⟩
 ·cases h
theorem ou {w w':World} (p:Addr) (hh:w'.heap[p.block]? =w.heap[p.block]?) (hcs:∃ cs T fr,w.heap[p.block]? =some (.cells cs T fr)):∀ (n i:Nat) (acc:Array Value) (v:Array Value),
  (loadCellsFrom p i n acc).run P w= .ok v w→(loadCellsFrom p i n acc).run P w'= .ok v w'
 | 0,i,acc,v,h=>by
  simp [loadCellsFrom] at h ⊢
  exact h
 | n+1,i,acc,v,h=>by
  have hbl:(p.add i).block=p.block:=by unfold Addr.add;split<;>rfl
  have hq:w'.cell? (p.add i)=w.cell? (p.add i):=World.cell?_of_block (by rw [hbl];exact hh);simp only [loadCellsFrom,Sem.run_bind,run_load,hq] at h ⊢;cases hcell:w.cell? (p.add i) with
  | none =>
   obtain ⟨cs,T,fr,hb⟩:=hcs;simp [hcell,Result.andThen,World.farLoad,hbl,hb] at h
  | some u =>
   simp only [hcell,Result.andThen] at h ⊢;exact ou p hh hcs n (i+1) _ v h
theorem vM {w w':World} {T:TypeId} {p:Addr} {v:Value} (hb:Below w.heap.size w w') (hc:(w.cell? p).isSome=true) (h:(loadVar T p).run P w= .ok v w):(loadVar T p).run P w'= .ok v w':=by
 have hcs:=cells_of_cell hc
 have hp:p.block<w.heap.size:=by
  obtain ⟨cs,T,fr,hh⟩:=hcs
  rcases aO p.block w.heap.size with h|h
  ·exact h
  ·rw [bZ h] at hh;cases hh
 have hh:=hb.block p.block hp;have hq:w'.cell? p=w.cell? p:=World.cell?_of_block hh;obtain ⟨u,hu⟩:=Option.isSome_iff_exists.1 hc;unfold loadVar at h ⊢;rw [Sem.run_bind] at h ⊢
 have ha:∃ r,∀ x:World,(isAgg T).run P x=match r with|Except.ok b=>Result.ok b x|Except.error e=>Result.halt e x:=by
  cases hT:P.underlying T with
  | none => exact ⟨.error (.stuck "no such type"), fun x => by simp [isAgg, Go.underlying, Sem.run_bind, hT, Result.andThen]⟩
  | some d=>cases d<;>first
   | (refine ⟨.ok true,fun x=>?_⟩;simp [isAgg,Go.underlying,Sem.run_bind,hT,Result.andThen];done)
   | (refine ⟨.ok false,fun x=>?_⟩;simp [isAgg,Go.underlying,Sem.run_bind,hT,Result.andThen];done)
 obtain ⟨r,hr⟩:=ha;rw [hr] at h ⊢;cases r with
 | error e=>simp [Result.andThen] at h
 | ok b =>
  simp only [Result.andThen] at h ⊢;cases b with
  | false =>
   simp only [dJ,if_false,run_load,hq,hu] at h ⊢
   injection h with h1
   rw [h1]
  | true =>
   simp only [if_true,Sem.run_bind,sizeOf,typeInfo] at h ⊢;cases hi:P.info? T with
   | none=>simp [hi,Result.andThen] at h
   | some i =>
    simp [hi,Result.andThen] at h ⊢
    unfold loadCells at h ⊢;cases hl:(loadCellsFrom p 0 i.size #[]).run P w with
    | halt e x=>simp [hl] at h
    | ok c x =>
     simp [hl] at h
     obtain ⟨h1,h2⟩:=h;rw [h2] at hl;rw [ou p hh hcs _ _ _ _ hl];simp [h1]
theorem EP {T:TypeId} {x:Operand} {p:Addr} (ho:ops[i]? =some o) (hg:o.guard=none) (hop:o.op= .load T x) (hx:a.eval x= aB (some p))
  (h:∀ J:Value→Prop,(∀ v,walk P ops Q N is A (a.put o.dst v) w→J v)→(w.cell? p).isSome=true∧∃ v,(loadVar T p).run P w= .ok v w∧J v):walk P ops Q N ((.read,i)::is) A a w:=by
 unfold walk;simp only [ho,Region.wanted,hg,if_true];obtain ⟨h1,v,h2,h3⟩:=h (fun v=>walk P ops Q N is A (a.put o.dst v) w) fun _ h=>h;refine ⟨v,fun w' hb=>?_,h3⟩;simp only [execOp,hop,hx,Instr.loadAt,Instr.sureAddr,Sem.run_bind,Sem.run_pure,Result.andThen_ok,vM hb h1 h2]
theorem aS (ho:ops[i]? =some o) (hg:o.guard=none) (h:∀ w',Below w.heap.size w w'→∀ J:Act→World→Prop,(∀ a' w'',Below w'.heap.size w' w''→walk P ops Q N is A a' w''→J a' w'')→o.wp P a w' J Q):walk P ops Q N ((.ext,i)::is) A a w:=by
 unfold walk;simp only [ho,Region.wanted,hg,if_true];exact fun w' hb=>h w' hb _ fun a' w'' h1 h2=>⟨h1,h2⟩
theorem eX {cs:Array Value} {T:TypeId} (ho:ops[i]? =some o) (h:∀ b w',Below w.heap.size w w'→N≤b→b<w'.heap.size→b∉A→w'.heap[b]? =some (.cells cs T (0,0))→walk P ops Q N is (b::A) (a.put o.dst (aB (some ⟨b,0,none⟩))) w'):walk P ops Q N ((.alloc cs T,i)::is) A a w:=by
 unfold walk;simp only [ho];exact h
theorem qw:∀ (js:List Nat) (l:List Oper) (a:Act) (w:World),js.map (ops[·]?)=l.map some→wpList P ops Q l a w→wpOps P ops Q js a w
 | [],[],_,_,_,h=>h
 | [],_:: _,_,_,hl,_=>by cases hl
 | _:: _,[],_,_,hl,_=>by cases hl
 | j::js,x::xs,a,w,hl,h=>by
  simp only [bL,jf] at hl;unfold wpList at h;simp only [wpOps,hl.1];split
  ·rename_i hw;simp only [hw,if_true] at h;exact h.imp (Oper.wp_mono fun a w h=>qw js xs a w hl.2 h) id
  ·rename_i hw;simp only [hw] at h;exact qw js xs _ _ hl.2 h
theorem dA (l:List Oper) (hl:(i::is.map (·.2)).map (ops[·]?)=l.map some) (h:∀ w',Below w.heap.size w w'→wpList P ops Q l a w'):walk P ops Q N ((.fin,i)::is) A a w:=by
 have hi:∃ o,ops[i]? =some o:=by
  cases l with
  | nil=>cases hl
  | cons x xs=>simp only [bL,jf] at hl;exact ⟨x,hl.1⟩
 obtain ⟨o,ho⟩:=hi;unfold walk;simp only [ho];exact fun w' hb=>qw _ l a w' hl (h w' hb)
end
end
end Go.SW
