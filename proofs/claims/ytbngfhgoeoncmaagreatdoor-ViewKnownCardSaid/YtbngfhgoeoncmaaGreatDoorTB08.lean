/- Lemmas for the proof. No condition. -/
import Derived.Test.YtbngfhgoeoncmaaGreatDoorTB07
set_option linter.unusedVariables false
set_option linter.unusedSimpArgs false
set_option maxRecDepth 100000
set_option maxHeartbeats 16000000
open List renaming cons_append → bB, map_cons → bL
open List.cons renaming injEq → iM
open Prod.mk renaming injEq → dW
namespace Go.Fx
open Go Go.RowKit Go.SW Go.Mem
def fits (S1 St S:Sl):Bool:=(S1.take (S1.length - S.length)).all fun p=>(look St p.1).isSome || !(look S p.1).isSome
def AZ (P:Program) (n:Nat) (w0:World) (ds:List Do) (S:Sl) (L:Mm) (St:Sl) (L':Mm):Prop :=
 ∀ w,(exec P n w0 ds S L).map (fun r=>(St.map (fun p=>look r.S p.1),r.L,r.us,r.rs.map (fun p=>p.1.run P w),fits r.S St S)) =
  some (St.map (fun p=>some p.2),L',((exec P n w0 ds S L).getD ⟨[],[],[],[],[]⟩).vs,((exec P n w0 ds S L).getD ⟨[],[],[],[],[]⟩).rs.map (fun p=>.ok (.value p.2) w),true)
theorem wL (A B:Sl) (i:Nat):look (A++B) i=(look A i).or (look B i):=by
 induction A with
 | nil=>simp [look]
 | cons x A ih =>
  simp only [bB,nE];cases Nat.beq i x.1 with
  | true=>rfl
  | false=>exact ih
theorem FI {A:Sl} {i:Nat} {v:Value} (h:look A i=some v):(i,v)∈A:=by
 induction A with
 | nil=>cases h
 | cons x A ih =>
  rw [nE] at h;cases hb:Nat.beq i x.1 with
  | true =>
   obtain rfl:=Nat.eq_of_beq_eq_true hb;simp only [hb,cond_true,Option.some.injEq] at h;subst h;exact List.mem_cons_self
  | false =>
   simp only [hb,cond_false] at h;exact List.mem_cons_of_mem _ (ih h)
def Pos.here:Pos→Bool
 | .nx _ _=>false
 | _=>true
section
variable {P:Program} {n:Nat} {R:Post} {w0:World} {H0:List Nat} {p:Pos} {S:Sl} {L:Mm}
theorem Oz {S':Sl} {d:Option Nat} {v:Value} (h:nA n S d v=some S'):∃ A,S'=A++S:=by
 cases d with
 | none=>cases h;exact ⟨[],rfl⟩
 | some d =>
  unfold nA at h;cases hb:Nat.blt d n with
  | true=>simp only [hb,cond_true,Option.some.injEq] at h;subst h;exact ⟨[(d,v)],rfl⟩
  | false=>simp only [hb,cond_false] at h;cases h
theorem Ql {d:Do} {e:Ex} {w:World} (h:rF P n w S L d=some e):∃ A,e.S=A++S:=by
 cases d<;>rw [rF] at h<;>(repeat' split at h)<;>first|(cases h;done)|(cases h;exact ⟨[],rfl⟩)|(obtain ⟨S1,h1,rfl⟩:=Option.map_eq_some_iff.1 h;exact Oz h1)
theorem F3 {w:World}:∀ (ds:List Do) (S:Sl) (L:Mm) (r:Ex),exec P n w ds S L=some r→∃ A,r.S=A++S
 | [],S,L,r,h=>by cases h;exact ⟨[],rfl⟩
 | d::ds,S,L,r,h=>by
  unfold exec at h;cases he:rF P n w S L d with
  | none=>simp only [he] at h;cases h
  | some e =>
   simp only [he] at h;cases hr:exec P n w ds e.S e.L with
   | none=>simp only [hr] at h;cases h
   | some r' =>
    simp only [hr,Option.some.injEq] at h;subst h;obtain ⟨A,hA⟩:=Ql he;obtain ⟨B,hB⟩:=F3 ds e.S e.L r' hr;exact ⟨B++A,by simp [hB,hA]⟩
theorem G.of {S':Sl} (h:G P n R w0 H0 p S' L) (hs:∀ i v,look S' i=some v→look S i=some v) (hp:p.here=true):G P n R w0 H0 p S L:=⟨fun w N H hM hok=>by
 have:=h.out w N H hM hok;cases p with
 | nx e k=>cases hp
 | code c k=>exact fun a ha=>this a (ha.of hs)
 | reg ops is k=>exact fun a ha=>this a (ha.of hs)
 | rZ ops Hj is A k=>exact fun a ha=>this a (ha.of hs)⟩
theorem Sy {α β:Type} {f g:α→β} {l:List α} (h:l.map f=l.map g) {x:α} (hx:x∈l):f x=g x:=by
 induction l with
 | nil=>cases hx
 | cons y l ih =>
  simp only [bL,iM] at h
  rcases List.mem_cons.1 hx with rfl|hx
  ·exact h.1
  ·exact ih h.2 hx
def AO (P:Program) (n:Nat) (w0:World) (ds:List Do) (S:Sl) (L:Mm):Sl:=match exec P n w0 ds S L with
 | some r=>r.S
 | none=>[]
def Np (P:Program) (n:Nat) (w0:World) (ds:List Do) (S:Sl) (L L':Mm):Prop :=
 ∀ w,(exec P n w0 ds S L).map (fun r=>(r.L,r.us,r.rs.map (fun p=>p.1.run P w))) =
  some (L',((exec P n w0 ds S L).getD ⟨[],[],[],[],[]⟩).vs,((exec P n w0 ds S L).getD ⟨[],[],[],[],[]⟩).rs.map (fun p=>.ok (.value p.2) w))
theorem goR (hs:List Nat) {m:Nat} (L':Mm) (h:Np P n w0 (tr m hs p).1 S L L') (hc:G P n R w0 H0 (tr m hs p).2 (AO P n w0 (tr m hs p).1 S L) L'):G P n R w0 H0 p S L:=by
 have h0:=h w0;obtain ⟨r,hr,he⟩:=Option.map_eq_some_iff.1 h0;simp only [dW] at he;obtain ⟨e2,e3, -⟩:=he
 have hB:Bears P r.rs:=fun w=>by
  have:=h w;rw [hr] at this;simp only [Option.map_some,Option.some.injEq,dW,Option.getD_some] at this;exact this.2.2
 rw [hr] at e3;subst e2;unfold AO at hc;rw [hr] at hc;exact yI m hs p S L r hr hB e3 hc
theorem AZ.plain {ds:List Do} {St:Sl} {L':Mm} (h:AZ P n w0 ds S L St L'):Np P n w0 ds S L L':=fun w=>by
 obtain ⟨r,hr,he⟩:=Option.map_eq_some_iff.1 (h w);simp only [dW] at he;obtain ⟨-, e2,e3,e4, -⟩:=he;rw [hr] at e3 e4 ⊢;simp only [Option.map_some,Option.some.injEq,dW];exact ⟨e2,e3,e4⟩
theorem Rh (hs:List Nat) (St:Sl) {m:Nat} (L':Mm) (h:AZ P n w0 (tr m hs p).1 S L St L') (hc:G P n R w0 H0 (tr m hs p).2 (AO P n w0 (tr m hs p).1 S L) L'):G P n R w0 H0 p S L:=goR hs L' h.plain hc
theorem AZ.sub {ds:List Do} {St:Sl} {L':Mm} (h:AZ P n w0 ds S L St L'):∀ i v,look (St++S) i=some v→look (AO P n w0 ds S L) i=some v:=by
 intro i v hv;have h0:=h w0;obtain ⟨r,hr,he⟩:=Option.map_eq_some_iff.1 h0;simp only [dW] at he;obtain ⟨e1, -, -, -, e5⟩:=he;unfold AO;rw [hr]
 show look r.S i=some v
 obtain ⟨A,hA⟩:=F3 _ _ _ _ hr;rw [wL] at hv;cases hl:look St i with
 | some u =>
  rw [hl] at hv;simp only [Option.or] at hv;cases hv
  exact Sy e1 (FI hl)
 | none =>
  rw [hl] at hv;simp only [Option.or] at hv;rw [hA,wL];cases hAi:look A i with
  | none=>exact hv
  | some u =>
   exfalso
   unfold fits at e5;rw [hA] at e5;have:=List.all_eq_true.1 e5 (i,u) (by simp;exact FI hAi);simp [hl,hv] at this
theorem go (hs:List Nat) (St:Sl) {m:Nat} (L':Mm) (h:AZ P n w0 (tr m hs p).1 S L St L') (hp:(tr m hs p).2.here=true) (hc:G P n R w0 H0 (tr m hs p).2 (St++S) L'):G P n R w0 H0 p S L :=
 Rh hs St L' h (hc.of h.sub hp)
end
end Go.Fx
