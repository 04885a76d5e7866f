/- Lemmas for the proof. No condition. -/
import Derived.Test.YtneajphgfdlmhaaGreatDoorQB04
set_option linter.unusedVariables false
set_option linter.unusedSimpArgs false
set_option maxRecDepth 100000
set_option maxHeartbeats 16000000
open Bool renaming and_eq_true → aK
open Go.Value renaming bool → ak
open List renaming cons_append → dh, map_cons → bL
open List.cons renaming injEq → jf
open Prod.mk renaming injEq → gX
namespace Go.Fx
open Go Go.RowKit Go.SW Go.Mem
section
variable (P:Program) (n:Nat) (R:Post)
def W (N:Nat) (H:List Nat):Pos→Sl→World→Prop
 | .code c k,S,w=>∀ a,wT n S a→c.wp P (lift n (Cont P n R k)) a w
 | .nx e k,S,w=>Cont P n R k e S w
 | .reg ops is k,S,w=>∀ a,wT n S a→wpOps P ops (lift n (Cont P n R k)) is a w
 | .tV ops _ is A k,S,w=>∀ a,wT n S a→Ia.walk (om H) P ops (lift n (Cont P n R k)) N is A a w
end
def blk (L:Mm) (j:Nat):Option Nat:=(L[j]?).map (·.b)
theorem Kh {L:Mm} {j:Nat} {cs:Array Value}:blk (wm L j cs)=blk L:=by
 funext i
 unfold blk;rw [oZ];cases L[i]? with
 | none=>rfl
 | some x=>simp;split<;>rfl
def Mj:K→Bool
 | .alloc _ _=>true
 | _=>false
def wrt (L:Mm) (j:Nat):Bool:=match L[j]? with
 | some x=>x.o
 | none=>false
theorem IC {L:Mm} {j:Nat} {cs:Array Value}:wrt (wm L j cs)=wrt L:=by
 funext i
 unfold wrt;rw [oZ];cases L[i]? with
 | none=>rfl
 | some x=>simp;split<;>rfl
def ok (w0:World) (N:Nat) (H:List Nat):Pos→Mm→Prop
 | .tV _ Hj is A _,L=>(is.any (fun x=>Mj x.1)=true→w0.heap.size≤N)∧(is.any (fun x=>Mj x.1)=true→∀ (j:Nat) (x:Bx),L[j]? =some x→x.b<N∨x.b∈A)∧(∀ h∈H,h<N)∧H=Hj.filterMap (blk L)∧∀ j∈Hj,wrt L j=true
 | _,_=>True
structure G (P:Program) (n:Nat) (R:Post) (w0:World) (H0:List Nat) (p:Pos) (S:Sl) (L:Mm):Prop where
 out:∀ w N H,Mem w0 H0 L w→ok w0 N H p L→W P n R N H p S w
section
variable {P:Program} {n:Nat} {R:Post} {w0:World} {H0:List Nat} {S S':Sl} {L L':Mm}
theorem GA {ops:Array Oper} {o:Oper} {a:Act} {w:World} {v:Value} (ha:wT n S a) (hf:fit ops S o=true) (hr:(execOp (ev S) o).run P w= .ok (.value v) w) {K:Act→World→Prop} {Q:Exit→Act→World→Prop} (hK:K (a.put o.dst v) w):o.wp P a w K Q:=by
 unfold Oper.wp;rw [ha.exec hf,hr];exact hK
theorem og {ops:Array Oper} {o:Oper} (hf:fit ops S o=true):gk ops S o=true:=by
 unfold fit at hf;simp only [aK] at hf;exact hf.1
theorem UQ {ops:Array Oper} {o:Oper} {w:World} {e:Ex} (h:uy P n w S L (.op ops o)=some e) (hb:Bears P e.rs) :
  fit ops S o=true∧e.L=L∧((∃ v,Region.wanted o (yl ops S)=true∧(∀ w,(execOp (ev S) o).run P w= .ok (.value v) w)∧oG n S o.dst v=some e.S)∨(Region.wanted o (yl ops S)=false∧oG n S o.dst undef=some e.S)):=by
 rw [uy] at h;split at h
 ·rename_i hf;split at h
  ·rename_i hw;split at h
   ·rename_i v w1 hr;obtain ⟨S1,h1,h2⟩:=Option.map_eq_some_iff.1 h;subst h2;exact ⟨hf,rfl,.inl ⟨v,hw,hb.one,h1⟩⟩
   ·cases h
  ·rename_i hw;obtain ⟨S1,h1,h2⟩:=Option.map_eq_some_iff.1 h;subst h2;exact ⟨hf,rfl,.inr ⟨hw,h1⟩⟩
 ·cases h
theorem UR {ops:Array Oper} {o:Oper} {w:World} {e:Ex} (h:uy P n w S L (.no ops o)=some e) :
  gk ops S o=true∧e.L=L∧Region.wanted o (yl ops S)=false∧oG n S o.dst undef=some e.S:=by
 rw [uy] at h;split at h
 ·rename_i hf hw;obtain ⟨S1,h1,h2⟩:=Option.map_eq_some_iff.1 h;subst h2;exact ⟨hf,rfl,hw,h1⟩
 ·cases h
theorem YW {ops:Array Oper} {o:Oper} {j:Nat} {w:World} {e:Ex} (h:uy P n w S L (.ld ops o j)=some e) (hb:e.us=e.vs) :
  fit ops S o=true∧e.L=L∧Region.wanted o (yl ops S)=true∧∃ y v,L[j]? =some y∧oG n S o.dst v=some e.S∧∀ w,aA w y.b y.cs y.T→(execOp (ev S) o).run P w= .ok (.value v) w:=by
 rw [uy] at h;split at h
 ·rename_i T x hf hw hop;split at h
  ·rename_i b off y hx hy;split at h
   ·rename_i v hv;obtain ⟨S1,h1,h2⟩:=Option.map_eq_some_iff.1 h;subst h2;simp only [jf,and_true] at hb;refine ⟨hf,rfl,hw,y,v,hy,h1,fun w hX=>?_⟩;rw [← hb] at hX;simp only [execOp,hop,hx,Instr.loadAt,Instr.sureAddr,Sem.run_bind,Sem.run_pure,Result.andThen_ok,TV hX hv]
   ·cases h
  ·cases h
 ·cases h
theorem YV {ops:Array Oper} {o:Oper} {j:Nat} {w:World} {e:Ex} (h:uy P n w S L (.st ops o j)=some e) (hb:e.us=e.vs) :
  fit ops S o=true∧e.S=S∧Region.wanted o (yl ops S)=true∧o.dst=none∧∃ y cs,L[j]? =some y∧y.o=true∧e.L=wm L j cs∧∀ w,aA w y.b y.cs y.T→∃ w',(execOp (ev S) o).run P w= .ok .skip w'∧Stored w w' y.b∧aA w' y.b cs y.T:=by
 rw [uy] at h;split at h
 ·rename_i T x y hf hw hd hop;split at h
  ·rename_i b off z f hx hz hi;split at h
   ·rename_i ho h1 h2 h3;cases h
    simp only [jf,and_true] at hb;refine ⟨hf,rfl,hw,hd,z,_,hz,ho,rfl,fun w hX=>?_⟩;have hs:(ev S y).cells.size=f.size:=Nat.eq_of_beq_eq_true h1;have hle:=Nat.le_of_ble_eq_true h2;obtain ⟨w',e1,e2,e3⟩:=Qa (P:=P) (ev S y).cells.toList off 0 z.cs w hX (by simp;omega) h3;refine ⟨w',?_,e2,e3⟩;simp [execOp,hop,hx,hb,Instr.storeAt,Instr.sureAddr,storeVar,sizeOf,typeInfo,hi,hs,e1]
   ·cases h
  ·cases h
 ·cases h
theorem aq8 {x:Operand} {b:Bool} {w:World} {e:Ex} (h:uy P n w S L (.br x b)=some e):e.S=S∧e.L=L∧known S x=true∧ev S x= ak b:=by
 rw [uy] at h;split at h
 ·rename_i c hk hx;split at h
  ·rename_i hc;cases h
   have:c=b:=by simpa using hc
   exact ⟨rfl,rfl,hk,this ▸ hx⟩
  ·cases h
 ·cases h
theorem ae7 {w:World} (hM:Mem w0 H0 L w) {Hj:List Nat} (hw:∀ j∈Hj,wrt L j=true) {j:Nat} {y:Bx} (hj:L[j]? =some y) (hn:Hj.contains j=false):y.b∉Hj.filterMap (blk L):=by
 intro hm;obtain ⟨i,hi,he⟩:=List.mem_filterMap.1 hm;unfold blk at he;obtain ⟨x,hx,hxb⟩:=Option.map_eq_some_iff.1 he;refine hM.UW i j x y hx hj (fun e=>?_) (by have:=hw i hi;unfold wrt at this;rw [hx] at this;exact this) hxb;subst e;simp at hn
 exact hn hi
theorem Ph {Hj:List Nat} {j:Nat} {y:Bx} (hj:L[j]? =some y) (hn:Hj.contains j=true):y.b∈Hj.filterMap (blk L) :=
 List.mem_filterMap.2 ⟨j,by simpa using hn,by simp [blk,hj]⟩
theorem z8 {hs hs':List Nat} {p p':Pos} {d:Option Do} (hm:Cm hs p=some (d,hs',p'))
  (hd:match d with|none=>S'=S∧L'=L|some d=>∃ e,uy P n w0 S L d=some e∧e.S=S'∧e.L=L'∧Bears P e.rs∧e.us=e.vs)
  (hc:G P n R w0 H0 p' S' L'):G P n R w0 H0 p S L:=by
 refine ⟨fun w N H hM hok=>?_⟩;cases p with
 | code c k =>
  cases c with
  | seq a b=>cases hm;obtain ⟨rfl,rfl⟩:=hd;exact (seq ⟨hc.out w N H hM trivial⟩).out
  | block id c=>cases hm;obtain ⟨rfl,rfl⟩:=hd;exact (block ⟨hc.out w N H hM trivial⟩).out
  | loop c=>cases hm;obtain ⟨rfl,rfl⟩:=hd;exact (loop 255 ⟨hc.out w N H hM trivial⟩).out
  | skip=>cases hm;obtain ⟨rfl,rfl⟩:=hd;exact (skip ⟨hc.out w N H hM trivial⟩).out
  | exit id=>cases hm;obtain ⟨rfl,rfl⟩:=hd;exact (exit ⟨hc.out w N H hM trivial⟩).out
  | region id ops draw =>
   cases draw with
   | true=>cases hm
   | false=>cases hm;obtain ⟨rfl,rfl⟩:=hd;exact fun a ha=>wp_region (hc.out w N H hM trivial a ha)
  | cond x c1 c2 =>
   have key:∀ (b:Bool) (hs0:List Nat),hs=(if b then 1 else 2)::hs0→d=some (.br x b)∧hs'=hs0∧p'= .code (if b then c1 else c2) k:=fun b hs0 he=>by
    subst he;cases b<;>cases hm<;>exact ⟨rfl,rfl,rfl⟩
   have:∃ (b:Bool) (hs0:List Nat),hs=(if b then 1 else 2)::hs0:=by
    simp only [Cm] at hm;split at hm
    ·exact ⟨true,_,rfl⟩
    ·exact ⟨false,_,rfl⟩
    ·cases hm
   obtain ⟨b,hs0,he⟩:=this;obtain ⟨rfl,rfl,rfl⟩:=key b hs0 he;obtain ⟨e,h1,rfl,rfl, -, -⟩:=hd;obtain ⟨e1,e2,hk,hx⟩:=aq8 h1;rw [e1,e2] at hc;exact (cond hk hx ⟨hc.out w N H hM trivial⟩).out
  | _=>cases hm
 | nx e k =>
  cases k with
  | nil=>cases e<;>cases hm
  | cons x k =>
   cases e with
   | normal =>
    cases x with
    | seq c=>cases hm;obtain ⟨rfl,rfl⟩:=hd;exact (ZT ⟨hc.out w N H hM trivial⟩).out
    | block id=>cases hm;obtain ⟨rfl,rfl⟩:=hd;exact (TF (id:=id) ⟨hc.out w N H hM trivial⟩).out
    | again c m =>
     cases m with
     | zero=>cases hm
     | succ m=>cases hm;obtain ⟨rfl,rfl⟩:=hd;exact (again ⟨hc.out w N H hM trivial⟩).out
   | exit id =>
    cases x with
    | seq c=>cases hm;obtain ⟨rfl,rfl⟩:=hd;exact (WV (c:=c) ⟨hc.out w N H hM trivial⟩).out
    | block id' =>
     simp only [Cm] at hm;split at hm
     ·rename_i hb;cases hm
      obtain ⟨rfl,rfl⟩:=hd;obtain rfl:=Nat.eq_of_beq_eq_true hb;exact (WX ⟨hc.out w N H hM trivial⟩).out
     ·rename_i hb;cases hm
      obtain ⟨rfl,rfl⟩:=hd;exact (WW (Nat.ne_of_beq_eq_false hb) ⟨hc.out w N H hM trivial⟩).out
    | again c m=>cases hm;obtain ⟨rfl,rfl⟩:=hd;exact (Qx (c:=c) (m:=m) ⟨hc.out w N H hM trivial⟩).out
   | _=>cases x<;>cases hm
 | reg ops is k =>
  cases is with
  | nil=>cases hm;obtain ⟨rfl,rfl⟩:=hd;exact fun a ha=>uS ha (hc.out w N H hM trivial)
  | cons i is =>
   simp only [Cm] at hm;split at hm
   ·cases hm
   ·rename_i o ho
    have hop:d=some (.op ops o)→p'= .reg ops is k→W P n R N H (.reg ops (i::is) k) S w:=by
     rintro rfl rfl;obtain ⟨e,h1,rfl,rfl,h4, -⟩:=hd;obtain ⟨hf,hL,hx⟩:=UQ h1 h4;rw [hL] at hc;intro a ha;unfold wpOps;simp only [ho,ha.wanted (og hf)]
     rcases hx with ⟨v,hw,hr,hp⟩|⟨hw,hp⟩
     ·rw [if_pos hw];exact .inl (GA ha hf (hr w) (hc.out w N H hM trivial _ (ha.oG hp)))
     ·rw [if_neg (by rw [hw];decide)];exact hc.out w N H hM trivial _ (ha.oG hp)
    have hno:d=some (.no ops o)→p'= .reg ops is k→W P n R N H (.reg ops (i::is) k) S w:=by
     rintro rfl rfl;obtain ⟨e,h1,rfl,rfl, -, -⟩:=hd;obtain ⟨hf,hL,hw,hp⟩:=UR h1;rw [hL] at hc;intro a ha;unfold wpOps;simp only [ho,ha.wanted hf];rw [if_neg (by rw [hw];decide)];exact hc.out w N H hM trivial _ (ha.oG hp)
    split at hm
    ·cases hm;exact hop rfl rfl
    ·cases hm;exact hno rfl rfl
    ·rename_i j hs1 hcl;cases hm
     obtain ⟨e,h1,rfl,rfl, -, h5⟩:=hd;obtain ⟨hf,hL,hw,y,v,hj,hp,hr⟩:=YW h1 h5;rw [hL] at hc;intro a ha;unfold wpOps;simp only [ho,ha.wanted (og hf)];rw [if_pos hw];exact .inl (GA ha hf (hr w (hM.all _ y hj)) (hc.out w N H hM trivial _ (ha.oG hp)))
    ·rename_i j hs1 hcl;cases hm
     obtain ⟨e,h1,rfl,rfl, -, h5⟩:=hd;obtain ⟨hf,hS,hw,hdn,y,cs,hj,QJ,hL,hr⟩:=YV h1 h5;rw [hL,hS] at hc;intro a ha;unfold wpOps;simp only [ho,ha.wanted (og hf)];rw [if_pos hw];obtain ⟨w',e1,e2,e3⟩:=hr w (hM.all _ y hj);refine .inl ?_;unfold Oper.wp;rw [ha.exec hf,e1];simp only [Oper.upon,hdn];exact hc.out w' N H (hM.set hj QJ (.stored e2) e3) trivial _ ha
    ·cases hm
 | tV ops Hj is A k =>
  obtain ⟨k1,k2,k3,k4⟩:=hok;cases is with
  | nil =>
   cases hm
   obtain ⟨rfl,rfl⟩:=hd;exact fun a ha=>fun w' hb=>uS ha (hc.out w' N H (hM.later hb) trivial)
  | cons x is =>
   obtain ⟨kd,i⟩:=x;simp only [Cm] at hm;split at hm
   ·cases hm
   ·rename_i o ho;have k1:is.any (fun x=>Mj x.1)=true→w0.heap.size≤N:=fun h=>k1 (by rw [List.any_cons,h,Bool.or_true]);have k2:is.any (fun x=>Mj x.1)=true→∀ (j:Nat) (x:Bx),L[j]? =some x→x.b<N∨x.b∈A:=fun h=>k2 (by rw [List.any_cons,h,Bool.or_true]);have ZR:ok w0 N H (.tV ops Hj is A k) L:=⟨k1,k2,k3,k4⟩;split at hm
    ·cases hm
     obtain ⟨e,h1,rfl,rfl,h4, -⟩:=hd;obtain ⟨hf,hL,hx⟩:=UQ h1 h4;rw [hL] at hc;intro a ha;unfold Ia.walk;simp only [ho,ha.wanted (og hf)]
     rcases hx with ⟨v,hw,hr,hp⟩|⟨hw,hp⟩
     ·rw [if_pos hw];exact ⟨v,fun w'=>by rw [ha.exec hf];exact hr w',hc.out w N H hM ZR _ (ha.oG hp)⟩
     ·rw [if_neg (by rw [hw];decide)];exact hc.out w N H hM ZR _ (ha.oG hp)
    ·cases hm
     obtain ⟨e,h1,rfl,rfl, -, -⟩:=hd;obtain ⟨hf,hL,hw,hp⟩:=UR h1;rw [hL] at hc;intro a ha;unfold Ia.walk;simp only [ho,ha.wanted hf];rw [if_neg (by rw [hw];decide)];exact hc.out w N H hM ZR _ (ha.oG hp)
    ·split at hm
     ·rename_i j hs1 hcj;cases hm
      obtain ⟨e,h1,rfl,rfl, -, h5⟩:=hd;obtain ⟨hf,hL,hw,y,v,hj,hp,hr⟩:=YW h1 h5;rw [hL] at hc;intro a ha;unfold Ia.walk;simp only [ho,ha.wanted (og hf)];rw [if_pos hw];refine ⟨v,fun w' hb=>?_,hc.out w N H hM ZR _ (ha.oG hp)⟩;rw [ha.exec hf];exact hr w' (hb.box (hM.all _ y hj) (k4.1 ▸ ae7 hM k4.2 hj hcj))
     ·cases hm
    ·cases hm
     obtain ⟨e,h1,rfl,rfl, -, -⟩:=hd;obtain ⟨hf,hL,hw,hp⟩:=UR h1;rw [hL] at hc;intro a ha;unfold Ia.walk;simp only [ho,ha.wanted hf];rw [if_neg (by rw [hw];decide)];exact hc.out w N H hM ZR _ (ha.oG hp)
    ·cases hm
     obtain ⟨e,h1,rfl,rfl,h4, -⟩:=hd;obtain ⟨hf,hL,hx⟩:=UQ h1 h4;rw [hL] at hc;intro a ha;unfold Ia.walk;simp only [ho,ha.wanted (og hf)]
     rcases hx with ⟨v,hw,hr,hp⟩|⟨hw,hp⟩
     ·rw [if_pos hw];exact fun w' hb=>GA ha hf (hr w') ⟨.refl w',hc.out w' N H (hM.later hb) ZR _ (ha.oG hp)⟩
     ·rw [if_neg (by rw [hw];decide)];exact hc.out w N H hM ZR _ (ha.oG hp)
    ·split at hm
     ·rename_i j hs1 hcj;cases hm
      obtain ⟨e,h1,rfl,rfl, -, h5⟩:=hd;obtain ⟨hf,hS,hw,hdn,y,cs,hj,QJ,hL,hr⟩:=YV h1 h5;rw [hL,hS] at hc;intro a ha;unfold Ia.walk;simp only [ho,ha.wanted (og hf)];rw [if_pos hw];intro w' hb;have hM':=hM.later hb;obtain ⟨w2,e1,e2,e3⟩:=hr w' (hM'.all _ y hj);unfold Oper.wp;rw [ha.exec hf,e1];simp only [Oper.upon,hdn];have hin:y.b∈H:=k4.1 ▸ Ph hj hcj;refine ⟨⟨e2.os,e2.tape,e2.output,Nat.le_of_eq e2.size.symm,fun i _ hn=>e2.block i fun e=>hn (e ▸ hin)⟩,hc.out w2 N H (hM'.set hj QJ (.stored e2) e3) ⟨k1,fun hal i x hx=>?_,k3,by rw [Kh,IC];exact k4⟩ _ ha⟩;rw [oZ] at hx;cases hi:L[i]? with
      | none=>rw [hi] at hx;cases hx
      | some u =>
       rw [hi] at hx;simp only [Option.map_some,Option.some.injEq] at hx;have e1:x.b=u.b:=by subst hx;split<;>rfl
       rw [e1];exact k2 hal i u hi
     ·cases hm
    ·cases hm
     obtain ⟨rfl,rfl⟩:=hd;intro a ha;unfold Ia.walk;simp only [ho];exact fun w' hb=>hc.out w' N H (hM.later hb) trivial a ha
    ·cases hm
theorem Bv:∀ (m:Nat) (hs:List Nat) (p:Pos) (S:Sl) (L:Mm) (r:Ex),exec P n w0 (tr m hs p).1 S L=some r→Bears P r.rs→r.us=r.vs→G P n R w0 H0 (tr m hs p).2 r.S r.L→G P n R w0 H0 p S L
 | 0,hs,p,S,L,r,h,h1,h2,hc=>by cases h;exact hc
 | m+1,hs,p,S,L,r,h,h1,h2,hc=>by
  unfold tr at h hc;cases hm:Cm hs p with
  | none=>simp only [hm] at h hc;cases h;exact hc
  | some x =>
   obtain ⟨d,hs',p'⟩:=x;cases d with
   | none =>
    simp only [hm] at h hc;exact z8 hm ⟨rfl,rfl⟩ (Bv m hs' p' S L r h h1 h2 hc)
   | some d =>
    simp only [hm] at h hc;unfold exec at h;cases he:uy P n w0 S L d with
    | none=>simp only [he] at h;cases h
    | some e =>
     simp only [he] at h;cases hr:exec P n w0 (tr m hs' p').1 e.S e.L with
     | none=>simp only [hr] at h;cases h
     | some r' =>
      simp only [hr,Option.some.injEq] at h;subst h
      have hl:e.us.length=e.vs.length:=by
       cases d<;>unfold uy at he<;>(repeat' split at he)<;>first|cases he<;>rfl|(obtain ⟨S1, -, rfl⟩:=Option.map_eq_some_iff.1 he;rfl)
      have h3:=List.append_inj h2 hl;exact z8 hm ⟨e,he,rfl,rfl,h1.left,h3.1⟩ (Bv m hs' p' e.S e.L r' hr h1.right h3.2 hc)
end
end Go.Fx
namespace Go.Fx
open Go Go.RowKit Go.SW Go.Mem
def fits (S1 St S:Sl):Bool:=(S1.take (S1.length - S.length)).all fun p=>(look St p.1).isSome || !(look S p.1).isSome
def F6 (P:Program) (n:Nat) (w0:World) (ds:List Do) (S:Sl) (L:Mm) (St:Sl) (L':Mm):Prop :=
 ∀ w,(exec P n w0 ds S L).map (fun r=>(St.map (fun p=>look r.S p.1),r.L,r.us,r.rs.map (fun p=>p.1.run P w),fits r.S St S)) =
  some (St.map (fun p=>some p.2),L',((exec P n w0 ds S L).getD ⟨[],[],[],[],[]⟩).vs,((exec P n w0 ds S L).getD ⟨[],[],[],[],[]⟩).rs.map (fun p=>.ok (.value p.2) w),true)
theorem Aa (A B:Sl) (i:Nat):look (A++B) i=(look A i).or (look B i):=by
 induction A with
 | nil=>simp [look]
 | cons x A ih =>
  simp only [dh,qU];cases Nat.beq i x.1 with
  | true=>rfl
  | false=>exact ih
theorem Co {A:Sl} {i:Nat} {v:Value} (h:look A i=some v):(i,v)∈A:=by
 induction A with
 | nil=>cases h
 | cons x A ih =>
  rw [qU] at h;cases hb:Nat.beq i x.1 with
  | true =>
   obtain rfl:=Nat.eq_of_beq_eq_true hb;simp only [hb,cond_true,Option.some.injEq] at h;subst h;exact List.mem_cons_self
  | false =>
   simp only [hb,cond_false] at h;exact List.mem_cons_of_mem _ (ih h)
def Pos.here:Pos→Bool
 | .nx _ _=>false
 | _=>true
section
variable {P:Program} {n:Nat} {R:Post} {w0:World} {H0:List Nat} {p:Pos} {S:Sl} {L:Mm}
theorem Tj {S':Sl} {d:Option Nat} {v:Value} (h:oG n S d v=some S'):∃ A,S'=A++S:=by
 cases d with
 | none=>cases h;exact ⟨[],rfl⟩
 | some d =>
  unfold oG at h;cases hb:Nat.blt d n with
  | true=>simp only [hb,cond_true,Option.some.injEq] at h;subst h;exact ⟨[(d,v)],rfl⟩
  | false=>simp only [hb,cond_false] at h;cases h
theorem UO {d:Do} {e:Ex} {w:World} (h:uy P n w S L d=some e):∃ A,e.S=A++S:=by
 cases d<;>rw [uy] at h<;>(repeat' split at h)<;>first|(cases h;done)|(cases h;exact ⟨[],rfl⟩)|(obtain ⟨S1,h1,rfl⟩:=Option.map_eq_some_iff.1 h;exact Tj h1)
theorem JW {w:World}:∀ (ds:List Do) (S:Sl) (L:Mm) (r:Ex),exec P n w ds S L=some r→∃ A,r.S=A++S
 | [],S,L,r,h=>by cases h;exact ⟨[],rfl⟩
 | d::ds,S,L,r,h=>by
  unfold exec at h;cases he:uy P n w S L d with
  | none=>simp only [he] at h;cases h
  | some e =>
   simp only [he] at h;cases hr:exec P n w ds e.S e.L with
   | none=>simp only [hr] at h;cases h
   | some r' =>
    simp only [hr,Option.some.injEq] at h;subst h;obtain ⟨A,hA⟩:=UO he;obtain ⟨B,hB⟩:=JW ds e.S e.L r' hr;exact ⟨B++A,by simp [hB,hA]⟩
theorem G.of {S':Sl} (h:G P n R w0 H0 p S' L) (hs:∀ i v,look S' i=some v→look S i=some v) (hp:p.here=true):G P n R w0 H0 p S L:=⟨fun w N H hM hok=>by
 have:=h.out w N H hM hok;cases p with
 | nx e k=>cases hp
 | code c k=>exact fun a ha=>this a (ha.of hs)
 | reg ops is k=>exact fun a ha=>this a (ha.of hs)
 | tV ops Hj is A k=>exact fun a ha=>this a (ha.of hs)⟩
theorem OC {α β:Type} {f g:α→β} {l:List α} (h:l.map f=l.map g) {x:α} (hx:x∈l):f x=g x:=by
 induction l with
 | nil=>cases hx
 | cons y l ih =>
  simp only [bL,jf] at h
  rcases List.mem_cons.1 hx with rfl|hx
  ·exact h.1
  ·exact ih h.2 hx
def wW (P:Program) (n:Nat) (w0:World) (ds:List Do) (S:Sl) (L:Mm):Sl:=match exec P n w0 ds S L with
 | some r=>r.S
 | none=>[]
def Ik (P:Program) (n:Nat) (w0:World) (ds:List Do) (S:Sl) (L L':Mm):Prop :=
 ∀ w,(exec P n w0 ds S L).map (fun r=>(r.L,r.us,r.rs.map (fun p=>p.1.run P w))) =
  some (L',((exec P n w0 ds S L).getD ⟨[],[],[],[],[]⟩).vs,((exec P n w0 ds S L).getD ⟨[],[],[],[],[]⟩).rs.map (fun p=>.ok (.value p.2) w))
theorem YT (hs:List Nat) {m:Nat} (L':Mm) (h:Ik P n w0 (tr m hs p).1 S L L') (hc:G P n R w0 H0 (tr m hs p).2 (wW P n w0 (tr m hs p).1 S L) L'):G P n R w0 H0 p S L:=by
 have h0:=h w0;obtain ⟨r,hr,he⟩:=Option.map_eq_some_iff.1 h0;simp only [gX] at he;obtain ⟨e2,e3, -⟩:=he
 have hB:Bears P r.rs:=fun w=>by
  have:=h w;rw [hr] at this;simp only [Option.map_some,Option.some.injEq,gX,Option.getD_some] at this;exact this.2.2
 rw [hr] at e3;subst e2;unfold wW at hc;rw [hr] at hc;exact Bv m hs p S L r hr hB e3 hc
theorem F6.plain {ds:List Do} {St:Sl} {L':Mm} (h:F6 P n w0 ds S L St L'):Ik P n w0 ds S L L':=fun w=>by
 obtain ⟨r,hr,he⟩:=Option.map_eq_some_iff.1 (h w);simp only [gX] at he;obtain ⟨-, e2,e3,e4, -⟩:=he;rw [hr] at e3 e4 ⊢;simp only [Option.map_some,Option.some.injEq,gX];exact ⟨e2,e3,e4⟩
theorem Xw (hs:List Nat) (St:Sl) {m:Nat} (L':Mm) (h:F6 P n w0 (tr m hs p).1 S L St L') (hc:G P n R w0 H0 (tr m hs p).2 (wW P n w0 (tr m hs p).1 S L) L'):G P n R w0 H0 p S L:=YT hs L' h.plain hc
theorem F6.sub {ds:List Do} {St:Sl} {L':Mm} (h:F6 P n w0 ds S L St L'):∀ i v,look (St++S) i=some v→look (wW P n w0 ds S L) i=some v:=by
 intro i v hv;have h0:=h w0;obtain ⟨r,hr,he⟩:=Option.map_eq_some_iff.1 h0;simp only [gX] at he;obtain ⟨e1, -, -, -, e5⟩:=he;unfold wW;rw [hr]
 show look r.S i=some v
 obtain ⟨A,hA⟩:=JW _ _ _ _ hr;rw [Aa] at hv;cases hl:look St i with
 | some u =>
  rw [hl] at hv;simp only [Option.or] at hv;cases hv
  exact OC e1 (Co hl)
 | none =>
  rw [hl] at hv;simp only [Option.or] at hv;rw [hA,Aa];cases hAi:look A i with
  | none=>exact hv
  | some u =>
   exfalso
   unfold fits at e5;rw [hA] at e5;have:=List.all_eq_true.1 e5 (i,u) (by simp;exact Co hAi);simp [hl,hv] at this
theorem go (hs:List Nat) (St:Sl) {m:Nat} (L':Mm) (h:F6 P n w0 (tr m hs p).1 S L St L') (hp:(tr m hs p).2.here=true) (hc:G P n R w0 H0 (tr m hs p).2 (St++S) L'):G P n R w0 H0 p S L :=
 Xw hs St L' h (hc.of h.sub hp)
end
end Go.Fx
