/- Lemmas for the proof. No condition. -/
import Derived.Test.YtbngfhgoeoncmaaGreatDoorWB02
import Derived.Test.YtbngfhgoeoncmaaGreatDoorWB03
import Derived.WalkMore
import Derived.Deep.RegionHeld
import Derived.Shelf.Small.Bits
import Derived.Shelf.Strconv.Itoa0
import Derived.Shelf.Strconv.ParseUint10
import Derived.Shelf.Strconv.ParseUint10Any
import Derived.Shelf.Strconv.ParseInt10
import Derived.Shelf.Strconv.ParseUint10b64
import Derived.Shelf.Strconv.ParseUint10At
import Derived.Shelf.Strconv.ParseInt10At64
import Derived.Shelf.Strconv.ParseInt10All
import Derived.Shelf.Strconv.ParseIntPublic10
import Derived.Shelf.Strings.Repeat
import Derived.ControlIn
set_option linter.unusedVariables false
set_option linter.unusedSimpArgs false
set_option maxRecDepth 100000
set_option maxHeartbeats 16000000
open Bool renaming and_eq_true → aF
open Go.Ending renaming returned → aj
open Go.IntKind renaming i64 → I
open Go.Value renaming agg → aB, bool → ak, int → Z, pointer → ay, slice → ah, string → O, tuple → aD
open List renaming all_eq_true → dI, getElem_mem → dx, take_length → eX, take_succ_eq_append_getElem → iq
open Nat renaming add_assoc → kY, add_mul → dM, add_zero → fZ, div_add_mod → dG, div_eq_of_lt → fD, div_lt_iff_lt_mul → dz, eq_zero_or_pos → aY, le_of_lt → kM, le_refl → aC, le_trans → au, lt_of_lt_of_le → aP, lt_or_ge → aH, mod_lt → gH, mul_add → aX, mul_assoc → dA, mul_comm → aJ, mul_le_mul → fq, mul_le_mul_left → aT, mul_le_mul_right → aU, mul_pos → gV, pow_add → gy, pow_le_pow_right → bW, pow_succ → bS, zero_add → dP
namespace Go.Fx
open Go Go.RowKit Go.SW Go.Mem
def Kept (l:List TypeId) (w w':World):Prop:=∀ b cs T,T∉l→aA w b cs T→aA w' b cs T
theorem Row.keep {l:List TypeId} {w w':World} {T:TypeId} {v:Value} {xs:List Value} (h:Row w T v xs) (k:Kept l w w') (hT:T∉l):Row w' T v xs:=by
 obtain ⟨a,cap,h1,h2,h3,h4,h5⟩:=h;refine ⟨a,cap,h1,h2,h3,h4,fun ad had=>?_⟩;obtain ⟨h6,arr,h7,h8⟩:=h5 ad had;exact ⟨h6,arr,k _ _ _ hT h7,h8⟩
theorem Fe {l:List TypeId} {T:TypeId} (h:l.contains T=false):T∉l:=by simpa using h
theorem aZ.keep {l:List TypeId} {w w':World} {v:Value} {n:Nat} (h:aZ w v n) (k:Kept l w w') (hT:l.contains 22=false:=by kernel_rfl):aZ w' v n:=Row.keep h k (Fe hT)
def hold (L:Mm):List Nat:=(L.filter (·.o)).map (·.b)
def tys (L:Mm):List TypeId:=(L.filter (·.o)).map (·.T)
theorem VJ {L:Mm} {j:Nat} {x:Bx} (h:L[j]? =some x) (ho:x.o=true):x.b∈hold L:=List.mem_map.2 ⟨x,List.mem_filter.2 ⟨List.mem_of_getElem? h,ho⟩,rfl⟩
structure Dn (w w0:World) (H:List Nat):Prop where
 below:Bw w w0
 old:∀ b∈H,w.heap.size≤b
theorem Dn.nil (w:World):Dn w w []:=⟨Below.refl _ _,fun _ h=>by cases h⟩
section
variable {P:Program} {n:Nat} {R:Post} {w0 w1:World} {H0:List Nat} {p:Pos} {S:Sl} {L L0:Mm}
theorem Dn.at {w W:World} (B:Dn w w0 H0) (M:Mem w0 H0 L W):Bw w W:=M.GK.below B.below B.old
theorem Dn.next {w:World} (B:Dn w w0 H0) (M:Mem w0 H0 L w1):Dn w w1 (hold L):=⟨B.at M,fun b hb=>by
 obtain ⟨x,hx,rfl⟩:=List.mem_map.1 hb;obtain ⟨hx,ho⟩:=List.mem_filter.1 hx;obtain ⟨j,hj⟩:=List.getElem?_of_mem hx
 rcases M.own j x hj ho with h|h
 ·exact B.old _ h
 ·exact au B.below.size h⟩
theorem Mem.aM8 {w:World} (h:Mem w0 H0 L w):Mem w (hold L) L w:=⟨h.all,h.Yg,fun _ _ hx ho=>.inl (VJ hx ho),vg.refl w⟩
theorem Mem.keep (M1:Mem w0 H0 L0 w1) {W:World} (M:Mem w1 (hold L0) L W):Kept (tys L0) w1 W:=fun b cs T hT hX=>by
 by_cases hb:b∈hold L0
 ·obtain ⟨x,hx,rfl⟩:=List.mem_map.1 hb;have hx2:=hx;obtain ⟨hx,ho⟩:=List.mem_filter.1 hx;obtain ⟨j,hj⟩:=List.getElem?_of_mem hx;have h2:=M1.all j x hj;unfold aA at h2 hX;rw [h2] at hX;cases hX
  exact absurd (List.mem_map.2 ⟨x,hx2,rfl⟩) hT
 ·exact M.GK.box hX hb
def aP6 (P:Program) (n:Nat) (R:Post) (w0:World) (H0:List Nat) (p:Pos) (d:Nat) (S:Sl) (L:Mm) (w w1:World):Ending→Prop
 | aj v=>Bw w w1∧(Mem w0 H0 L w1→G P n R w1 (hold L) p.past ((d,v)::S) L)
 | _=>False
theorem iP (hs:List Nat) (d:Nat) (St:Sl) (U:List (Nat × Array Value)) {f:FuncId} {args:Array Value} {E:World→Ending→World→Prop} (hC:∀ w,Mem w0 H0 (upd L U) w→Calls P f args w (E w))
  (hc:∀ w w1 e,Mem w0 H0 (upd L U) w→E w e w1→aP6 P n R w0 H0 (tr 4000 hs p).2 d (St++S) (upd L U) w w1 e)
  (h:Gy P n w0 (tr 4000 hs p).1 S L St (upd L U):=by intro _;kernel_rfl) (hx:∀ w,sJ P n w (AO P n w0 (tr 4000 hs p).1 S L) (tr 4000 hs p).2=some (d,f,args,w):=by intro _;kernel_rfl) (hal:(tr 4000 hs p).2.past.G7=true:=by kernel_rfl):G P n R w0 H0 p S L:=by
 refine WL hs St _ h ?_;have hsub:=h.sub;have hh:=tT (hx w0);generalize AO P n w0 (tr 4000 hs p).1 S L=F at hx hsub ⊢;generalize (tr 4000 hs p).2=q at hc hx hal hh;generalize upd L U=L at hC hc;generalize St++S=S at hc hsub;obtain ⟨ops,o,hn,hf,hw,hd,hlt, -⟩:=kG (h:=hx w0);refine place hn hf hw (Y:=fun N H w a a' w1=>∃ v,a'=a.put (some d) v∧Bw w w1∧Mem w0 H0 L w1∧G P n R w1 (hold L) q.past ((d,v)::F) L) (fun w N H hM hok a ha K hK k=>?_) fun w N H hM hok a a' w' ha hy=>?_
 ·obtain ⟨ops',o',hn', -, -, -, -, hr⟩:=kG (h:=hx w);rw [hn] at hn';cases hn'
  unfold Oper.wp;rw [ha.exec hf,hr];simp only [Oper.upon];refine (hC w hM).mono fun e w' he=>?_;have:=hc w w' e hM he;cases e with
  | returned v =>
   rw [hd];exact hK _ _ ⟨v,rfl,this.1,hM.later this.1,(this.2 (hM.later this.1)).of (mY hsub d v) hh⟩
  | _=>exact this.elim
 ·obtain ⟨v,rfl,h1,h2,h3⟩:=hy;refine ⟨fun _ _ _ _ _ _=>.of h1,_,ha.put hlt v,h3.out w' N H h2.aM8 ?_⟩;cases q with
  | vH ops Hj is A k =>
   cases is with
   | nil=>cases hn
   | cons x is =>
    obtain ⟨k1,k2,k3,k4⟩:=hok;refine ⟨fun hx=>?_,fun hx=>?_,k3,k4⟩<;>simp only [Pos.past,Pos.G7,hx] at hal<;>cases hal
  | reg ops is k=>cases is<;>exact trivial
  | _=>exact trivial
end
end Go.Fx
namespace Go.fG
open Go Go.RowKit Go.Num Go.Mem Go.Fx
theorem gI.keep {l:List TypeId} {w w':World} {v:Value} {q:Rat} (h:gI w v q) (k:Kept l w w') (hT:l.contains 22=false:=by kernel_rfl):gI w' v q:=by
 obtain ⟨pa,n,ca,pb,m,cb,h1,h2,h3⟩:=h;exact ⟨pa,n,ca,pb,m,cb,h1,Fx.aZ.keep h2 k hT,Fx.aZ.keep h3 k hT⟩
theorem YJ {k:Nat} {p q:Rat} (h:mQ k p) (i:mQ k q):mQ (2*k+1) (p - q):=by
 rw [Rat.sub_eq_add_neg];exact CS h (CJ i)
def aO1 (w:World) (q:Rat) (e:Ending) (w':World):Prop:=∃ p l c b p' l' c',e= aj (aB #[ah p l c,ak b,ah p' l' c'])∧Bw w w'∧gI w' (aB #[ah p l c,ak b,ah p' l' c']) q
theorem ae8 {w:World} {q:Rat} {e:Ending} {w':World} (h:∃ v,e= aj v∧Bw w w'∧gI w' v q):aO1 w q e w':=by
 obtain ⟨v,rfl,h,hv⟩:=h;obtain ⟨p,l,c,p',l',c',rfl, -⟩:=id hv;exact ⟨p,l,c,_,p',l',c',rfl,h,hv⟩
def az5 (u:Value) (w:World) (q:Rat) (e:Ending) (w':World):Prop:=∃ p l c b p' l' c',e= aj (aD #[aB #[ah p l c,ak b,ah p' l' c'],u])∧Bw w w'∧gI w' (aB #[ah p l c,ak b,ah p' l' c']) q
theorem vX {u:Value} {w:World} {q:Rat} {e:Ending} {w':World} (h:∃ v,e= aj (aD #[v,u])∧Bw w w'∧gI w' v q):az5 u w q e w':=by
 obtain ⟨v,rfl,h,hv⟩:=h;obtain ⟨p,l,c,p',l',c',rfl, -⟩:=id hv;exact ⟨p,l,c,_,p',l',c',rfl,h,hv⟩
end Go.fG
namespace Go.Proofs.fB
open Go Go.RowKit Go.SW Go.Num Go.Mem Go.Proofs
def jg (x:(Int × Int) × Int):Value:=aD #[aB #[Z I x.1.1,Z I x.1.2],Z I x.2]
def jl (lo hi:Int):Bool:=decide (-1000000000000000000≤lo)&&(decide (lo≤hi)&&decide (hi≤1000000000000000000))
theorem oP (lo hi:Int) (w:World):Calls Tryz.prog 49 #[Z I lo,Z I hi] w (fun e w'=>e= aj (ak (jl lo hi))∧Bw w w'):=by
 unfold jl;cases h1:decide (-1000000000000000000≤lo)<;>cases h2:decide (lo≤hi)<;>cases h3:decide (hi≤1000000000000000000)
 all_goals
  go_enter Tryz.func49,Tryz.ntmps49
  go_wp2_with fail
  go_ret
  exact ⟨rfl,Below.refl _ _⟩
theorem kI (lo hi:Int) (w:World):Calls Tryz.prog 22 #[aB #[Z I lo,Z I hi]] w (fun e w'=>e= aj (Z I (if jl lo hi then 0 else 30))∧Bw w w'):=by
 have H:=zh (fun W=>oP lo hi W);generalize jl lo hi=b at *;cases b
 all_goals
  go_enter Tryz.func22,Tryz.ntmps22
  go_wp2_with fail
  refine (H.out _).mono ?_;rintro e w1 ⟨rfl,hb1⟩;have hw:=Bt (show Below w.heap.size w (w.alloc (.cells #[Z I lo,Z I hi] 26)) from aI) hb1;go_wp2_with fail
  go_ret
  exact ⟨rfl,hw⟩
theorem uf (lo hi:Int) (w:World):Calls Tryz.prog 26 #[Z I lo,Z I hi] w (fun e w'=>e= aj (if jl lo hi then aD #[aB #[Z I lo,Z I hi],Z I 0] else aD #[aB #[Z I 0,Z I 0],Z I 30])∧Bw w w'):=by
 have H:=zh (fun W=>oP lo hi W);generalize jl lo hi=b at *;cases b
 all_goals
  go_enter Tryz.func26,Tryz.ntmps26
  go_wp2_with fail
  refine (H.out _).mono ?_;rintro e w1 ⟨rfl,hb1⟩;have hx:=aA.later (aA.new w #[Z I 0,Z I 0] 26) hb1;have cx:=hx.cell;have fx:=hx.free;have lx:=hx.lt;have hw:=Bt (show Below w.heap.size w (w.alloc (.cells #[Z I 0,Z I 0] 26)) from aI) hb1;go_wp2_with fail
  refine bX rfl rfl bq Tryz.underlying26 rfl zk ?_;exact ⟨rfl,aI⟩
end Go.Proofs.fB
namespace Go.SW
open Go Go.RowKit
variable {P:Program} {ops:Array Oper} {Q:Exit→Act→World→Prop} {o:Oper} {i:Nat} {is:List (K × Nat)} {a:Act} {w:World} {N:Nat} {A:List Nat}
theorem Du (ho:ops[i]? =some o) (hw:Region.wanted o (yielded ops a.tmps)=true) (h:∀ J:Act→Prop,(∀ a,walk P ops Q N is A a w→J a)→∃ v,(∀ w',(execOp a.eval o).run P w'= .ok (.value v) w')∧J (a.put o.dst v)):walk P ops Q N ((.pure,i)::is) A a w:=by
 refine RS ho fun J hJ=>?_;rw [if_pos hw];exact h J hJ
theorem Dv {T:TypeId} {x:Operand} {p:Addr} (ho:ops[i]? =some o) (hw:Region.wanted o (yielded ops a.tmps)=true) (hop:o.op= .load T x) (hx:a.eval x= ay (some p))
  (h:∀ J:Value→Prop,(∀ v,walk P ops Q N is A (a.put o.dst v) w→J v)→(w.cell? p).isSome=true∧∃ v,(loadVar T p).run P w= .ok v w∧J v):walk P ops Q N ((.read,i)::is) A a w:=by
 unfold walk;simp only [ho,hw,if_true];obtain ⟨h1,v,h2,h3⟩:=h (fun v=>walk P ops Q N is A (a.put o.dst v) w) fun _ h=>h;refine ⟨v,fun w' hb=>?_,h3⟩;simp only [execOp,hop,hx,Instr.loadAt,Instr.sureAddr,Sem.run_bind,Sem.run_pure,Result.andThen_ok,yh hb h1 h2]
theorem RU (ho:ops[i]? =some o) (hw:Region.wanted o (yielded ops a.tmps)=true) (h:∀ w',Bw w w'→∀ J:Act→World→Prop,(∀ a' w'',Below w'.heap.size w' w''→walk P ops Q N is A a' w''→J a' w'')→o.wp P a w' J Q):walk P ops Q N ((.ext,i)::is) A a w:=by
 unfold walk;simp only [ho,hw,if_true];exact fun w' hb=>h w' hb _ fun a' w'' h1 h2=>⟨h1,h2⟩
def K.soft:K→Bool
 | .pure=>true
 | .read=>true
 | .ext=>true
 | _=>false
theorem xg {k:K} (hk:k.soft=true) (ho:ops[i]? =some o) (hw:Region.wanted o (yielded ops a.tmps)=false) (h:∀ J:Act→Prop,(∀ a,walk P ops Q N is A a w→J a)→J (a.put o.dst undef)):walk P ops Q N ((k,i)::is) A a w:=by
 have h':=h (fun a=>walk P ops Q N is A a w) fun _ h=>h;cases k with
 | pure=>unfold walk;simp only [ho,hw];exact h'
 | read=>unfold walk;simp only [ho,hw];exact h'
 | ext=>unfold walk;simp only [ho,hw];exact h'
 | alloc _ _=>cases hk
 | fin=>cases hk
end Go.SW
namespace Go.fG
open Go Go.RowKit Go.Num Go.Mem
def La (w:World) (_T:TypeId) (v:Value) (l:List (Int × Int)):Prop :=
 ∃ a cap,v= ah a l.length cap∧l.length≤cap∧cap≤9223372036854775807∧∀ k (_:k<l.length),∃ b off,a=some ⟨b,off,none⟩∧b<w.heap.size∧w.cell? ⟨b,off+k*2,none⟩=some (.int .i64 l[k].1)∧w.cell? ⟨b,off+k*2+1,none⟩=some (.int .i64 l[k].2)
theorem La.later {w w':World} {T:TypeId} {v:Value} {l:List (Int × Int)} (h:La w T v l) (hb:Bw w w'):La w' T v l:=by
 obtain ⟨a,cap,h1,h2,h3,h4⟩:=h;refine ⟨a,cap,h1,h2,h3,fun k hk=>?_⟩;obtain ⟨b,off,h5,h6,h7,h8⟩:=h4 k hk;exact ⟨b,off,h5,aP h6 hb.size,(hb.cell (p:=⟨b,off+k*2,none⟩) h6).trans h7,(hb.cell (p:=⟨b,off+k*2+1,none⟩) h6).trans h8⟩
theorem La.read {w:World} {T:TypeId} {v:Value} {l:List (Int × Int)} (h:La w T v l) :
  ∃ a cap,v= ah a l.length cap∧l.length≤cap∧cap≤9223372036854775807∧∀ k (_:k<l.length),∃ b off,a=some ⟨b,off,none⟩∧b<w.heap.size∧w.cell? ⟨b,off+k*2,none⟩=some (.int .i64 l[k].1)∧w.cell? ⟨b,off+k*2+1,none⟩=some (.int .i64 l[k].2):=h
theorem La.yN {w:World} {T:TypeId} {b n c:Nat} {arr:Array Value} {l:List (Int × Int)} (h:aA w b arr T) (hn:l.length=n) (hc:n≤c) (hm:c≤9223372036854775807) (k:∀ i (h:i<l.length),arr[i*2]? =some (.int .i64 l[i].1)∧arr[i*2+1]? =some (.int .i64 l[i].2)):La w T (ah (some ⟨b,0,none⟩) n c) l:=by
 subst hn;refine ⟨_,_,rfl,hc,hm,fun i hi=>⟨b,0,rfl,h.lt,?_,?_⟩⟩
 ·rw [h.cell,dP];exact (k i hi).1
 ·rw [h.cell,dP];exact (k i hi).2
def okB (l:List (Int × Int)):Bool:=l.all fun b=>Go.Proofs.fB.jl b.1 b.2
theorem La.one {w:World} {T:TypeId} {b:Nat} {lo hi:Int} (h:aA w b #[Z I lo,Z I hi] T):La w T (ah (some ⟨b,0,none⟩) 1 1) [(lo,hi)] :=
 La.yN h rfl (aC _) zo fun i hi=>by
  have:i<1:=hi;obtain rfl:i=0:=by omega
  exact ⟨rfl,rfl⟩
theorem La.two {w:World} {T:TypeId} {b:Nat} {x1 x2 x3 x4:Int} (h:aA w b #[Z I x1,Z I x2,Z I x3,Z I x4] T):La w T (ah (some ⟨b,0,none⟩) 2 2) [(x1,x2),(x3,x4)] :=
 La.yN h rfl (aC _) zo fun i hi=>by
  have:i<2:=hi;obtain rfl|rfl:i=0∨i=1:=by omega
  ·exact ⟨rfl,rfl⟩
  ·exact ⟨rfl,rfl⟩
end Go.fG
namespace Go.Proofs.fB
open Go Go.RowKit Go.SW Go.Num Go.Mem Go.Proofs Go.fG
def jK (lo hi:Int):(Int × Int) × Int:=if jl lo hi then ((lo,hi),0) else ((0,0),6)
theorem oN (lo hi:Int) (w:World):Calls Tryz.prog 105 #[Z I lo,Z I hi] w (fun e w'=>e= aj (jg (jK lo hi))∧Bw w w'):=by
 have H:=zh (fun W=>oP lo hi W);unfold jK;generalize jl lo hi=b at *;unfold jg;cases b
 all_goals
  go_enter Tryz.func105,Tryz.ntmps105
  go_wp2_with fail
  refine (H.out _).mono ?_;rintro e w1 ⟨rfl,hb1⟩;have hx:=aA.later (aA.new w #[Z I 0,Z I 0] 26) hb1;have cx:=hx.cell;have fx:=hx.free;have lx:=hx.lt;have hw:=Bt (show Below w.heap.size w (w.alloc (.cells #[Z I 0,Z I 0] 26)) from aI) hb1;go_wp2_with fail
  refine bX rfl rfl bq Tryz.underlying26 rfl zk ?_;exact ⟨rfl,aI⟩
theorem az7 (b c:Nat) (zs:List Int) (z0:Int) (h0:zs[0]? =some z0) (arr:Array Value) (T:TypeId) (w:World) (hx:aA w b arr T) (hc:∀ j (h:j<zs.length),arr[j]? =some (.int .i64 zs[j])) (hl:zs.length≤9223372036854775807) :
  Calls Tryz.prog 177 #[ah (some ⟨b,0,none⟩) zs.length c] w (fun e w'=>e= aj (Z I (zs.foldl max z0))∧Bw w w'):=by
 have hn:0<zs.length:=by
  rcases aY zs.length with h|h
  ·rw [List.getElem?_eq_none zo] at h0;cases h0
  ·exact h
 have hz0:zs[0]=z0:=by
  rw [List.getElem?_eq_getElem hn] at h0;exact Option.some.inj h0
 have h00:w.cell? ⟨b,0,none⟩=some (.int .i64 z0):=by
  rw [hx.cell,hc 0 hn,hz0]
 have lb:=hx.lt;have g1:decide ((zs.length:Int)<1)=false:=by simp;omega
 have HX:=zh hx;have HC:=zh hc;clear hx hc;go_enter Tryz.func177,Tryz.ntmps177
 go_wp2_with fail
 go_loopw [3,4] (fun m i wr=>∃ k:Nat,0<k∧k≤zs.length∧i= Z I (k:Int)∧m= Z I ((zs.take k).foldl max z0)∧Bw w wr) (fun _ i _=>zs.length - (intOf i).toNat)
 case atStart =>
  refine ⟨1,by omega,hn,rfl,?_,Below.refl _ _⟩;cases zs with
  | nil=>simp at hn
  | cons x t =>
   simp only [List.getElem_cons_zero] at hz0;subst hz0;simp
 case round =>
  obtain ⟨k,hk0,hk,rfl,rfl,hb⟩:=hrel
  by_cases hlt:k<zs.length
  ·have hcell:=((HX.out.later hb).cell k).trans (HC.out k hlt)
   have hstep:(zs.take (k+1)).foldl max z0=max ((zs.take k).foldl max z0) zs[k]:=by
    rw [iq hlt,List.foldl_append];rfl
   have HS:=zh hstep;clear hstep;generalize zs[k]=zk at *;generalize (zs.take k).foldl max z0=mk at *;go_wp2_with fail
   go_roundw
   case rel=>exact ⟨k+1,by omega,by omega,by go_num,by rw [HS.out]<;>go_num,hb⟩
   case measure=>exact zM
  ·obtain rfl:k=zs.length:=by omega
   rw [eX];go_wp2_with fail
   go_ret
   exact ⟨rfl,hb⟩
theorem MG (b c:Nat) (zs:List Int) (z0:Int) (h0:zs[0]? =some z0) (arr:Array Value) (T:TypeId) (w:World) (hx:aA w b arr T) (hc:∀ j (h:j<zs.length),arr[j]? =some (.int .i64 zs[j])) (hl:zs.length≤9223372036854775807) :
  Calls Tryz.prog 107 #[ah (some ⟨b,0,none⟩) zs.length c] w (fun e w'=>e= aj (Z I (zs.foldl max z0))∧Bw w w'):=by
 have H:=zh (az7 b c zs z0 h0 arr T w hx hc hl);clear h0 hx hc hl;generalize zs.length=n at *;generalize zs.foldl max z0=z at *;go_enter Tryz.func107,Tryz.ntmps107
 go_wp2_with fail
 refine H.out.mono ?_;rintro e w1 ⟨rfl,hb1⟩;go_wp2_with fail
 go_ret
 exact ⟨rfl,hb1⟩
theorem uX (F:FuncId) (free:Array Value) (z:(Int × Int) × Int) (T:TypeId) (v:Value) (l:List (Int × Int)) (w:World) (hv:La w T v l)
  (h1:okB l=true→∀ W,Bw w W→Calls Tryz.prog F free W (fun e w'=>e= aj (jg z)∧Bw W w'))
  (hen:∀ args W,(callFunc F args).run Tryz.prog W= .ok (.enter F args) W) :
  Calls Tryz.prog 53 #[.func (.func F) #[] free,v] w (fun e w'=>e= aj (jg (if okB l then z else ((0,0),30)))∧Bw w w'):=by
 obtain ⟨a,cap,rfl,hc1,hc2,hread⟩:=hv.read;have HR:=zh hread;have H1:=zh h1;clear h1 hv hread;obtain ⟨z',EZ⟩:∃ y,(if okB l then z else ((0,0),30))=y:=⟨_,rfl⟩;rw [EZ];have HZ:=zh EZ;clear EZ;obtain ⟨⟨z1,z2⟩,z3⟩:=z';unfold jg at *;simp only at *;go_enter Tryz.func53,Tryz.ntmps53
 go_wp2_with fail
 obtain ⟨wx,EW,hz,R⟩:=Gc w #[Z I 0,Z I 0] 26;rw [EW];clear EW;have HB:=zh hz;clear hz;obtain ⟨bx,eb⟩:∃ y,w.heap.size=y:=⟨_,rfl⟩;rw [eb] at R ⊢;go_wp2_with fail
 go_loopw [11] (fun iv wr=>∃ k:Nat,iv= Z I (k:Int)∧k≤l.length∧Hid (∀ j (h:j<l.length),j<k→jl l[j].1 l[j].2=true)∧Bw wx wr) (fun iv _=>l.length - (intOf iv).toNat)
 case atStart=>exact ⟨0,rfl,by omega,zh (fun j _ h=>by omega),Below.refl _ _⟩
 case round =>
  obtain ⟨k,rfl,hk,HK,hb⟩:=hrel
  rcases aH k l.length with hlt|hge
  ·obtain ⟨b,off,rfl,hbl,hx1,hx2⟩:=HR.out k hlt;have hB:=Bt HB.out hb;have hc1:=(hB.cell (p:=⟨b,off+k*2,none⟩) hbl).trans hx1;have hc2:=(hB.cell (p:=⟨b,off+k*2+1,none⟩) hbl).trans hx2;clear hx1 hx2;have HV:=zh (fun W=>oP l[k].1 l[k].2 W);obtain ⟨bk,EK⟩:∃ y,jl l[k].1 l[k].2=y:=⟨_,rfl⟩;have HE:=zh EK;rw [EK] at HV;clear EK;generalize hlk:l[k]=lk at *;have HLK:=zh hlk;clear hlk;obtain ⟨y1,y2⟩:=lk;simp only at *;replace R:=R.bl hb;go_wp2_with fail
   obtain ⟨wy,EW,hz,Y⟩:=Gc wr #[Z I y1,Z I y2] 26;rw [EW];clear EW;refine (HV.out _).mono ?_;rintro e w1 ⟨rfl,hb1⟩;have hw:=Bt hb (Bt hz hb1);replace R:=(R.bl hz).bl hb1;clear hc1 hc2 hz hb1 Y HV;cases bk
   ·have hx:=R.out;have cx:=hx.cell;have fx:=hx.free;have lx:=hx.lt;go_wp2_with fail
    refine bX rfl rfl bq Tryz.underlying26 rfl zk ?_
    have hno:okB l=false:=by
     unfold okB;rw [List.all_eq_false];refine ⟨l[k],dx _,?_⟩;rw [HLK.out,HE.out];simp
    have he:=HZ.out;rw [hno] at he;cases he
    have hB2:=Bt HB.out hw;exact ⟨rfl,aI⟩
   ·go_wp2_with fail
    go_roundw
    case rel =>
     refine ⟨k+1,by go_num,by omega,zh fun j hj hjk=>?_,hw⟩
     rcases aH j k with h|h
     ·exact HK.out j hj h
     ·obtain rfl:j=k:=by omega
      rw [HLK.out,HE.out]
    case measure=>exact zM
  ·obtain rfl:k=l.length:=by omega
   have hyes:okB l=true:=by
    unfold okB;rw [dI];intro x hx;obtain ⟨j,hj,rfl⟩:=List.getElem_of_mem hx;exact HK.out j hj hj
   have he:=HZ.out;rw [if_pos hyes] at he;subst he;have HH:=zh (H1.out hyes);simp only at HH;clear hyes H1;replace R:=R.bl hb;have hB:=Bt HB.out hb;go_wp2_with fail
   refine (HH.out _ hB).mono ?_;rintro e w1 ⟨rfl,hb1⟩;have hw:=Bt hB hb1;replace R:=R.bl hb1;have hx:=R.out;have cx:=hx.cell;have fx:=hx.free;have lx:=hx.lt;clear hb1;go_wp2_with fail
   refine bX rfl rfl bq Tryz.underlying26 rfl zk ?_;exact ⟨rfl,aI⟩
def q9 (n:Int) (d:Nat) (up:Bool):Int:=if up then -(-n / (d:Int)) else n / (d:Int)
def vE (p d:Nat) (b:Bool):Nat:=if 0<p%d∧b=true then p / d+1 else p / d
theorem QS (p d:Nat) (hd:0<d): -(p:Int) / (d:Int)= -((vE p d true:Nat):Int):=by
 have h:=dG p d;have hr:=gH p hd;unfold vE;generalize p / d=q at *;generalize p%d=r at *
 have e: -(p:Int)= -(r:Int)+(d:Int)* -(q:Int):=by
  rw [← h,Int.natCast_add,Int.natCast_mul,Int.mul_neg];omega
 rw [e,Int.add_mul_ediv_left _ _ zo]
 by_cases h0:0<r
 ·rw [if_pos ⟨h0,rfl⟩]
  have: -(r:Int) / (d:Int)= -1:=by
   refine Int.le_antisymm ?_ ?_
   ·have:=(Int.ediv_lt_iff_lt_mul (a:= -(r:Int)) (b:=0) (c:=(d:Int)) zo).2 zo;omega
   ·rw [Int.le_ediv_iff_mul_le zo];omega
  rw [this];omega
 ·obtain rfl:r=0:=by omega
  rw [if_neg zo];simp
theorem an9 (x y:Int) {d:Nat} (hd:0<d) (up:Bool):q9 (x*y) d up=iR (vE (x.natAbs*y.natAbs) d (up != (decide (x<0) != decide (y<0)))) (decide (x<0) != decide (y<0)):=by
 rw [← zC x y];generalize x.natAbs*y.natAbs=p;generalize (decide (x<0) != decide (y<0))=neg
 have hf:((p:Int)) / (d:Int)=((vE p d false:Nat):Int):=by
  unfold vE;rw [if_neg zi];omega
 have hn:=QS p d hd;unfold q9 iR;cases neg<;>cases up<;>simp [hf,hn]
def mJ (x y:Int) (d:Nat) (up:Bool):Int × Bool:=if (q9 (x*y) d up).natAbs≤1000000000000000000 then (q9 (x*y) d up,true) else (0,false)
theorem LG (x y:Int) {d:Nat} (hd:0<d) (up:Bool):mJ x y d up=if vE (x.natAbs*y.natAbs) d (up != (decide (x<0) != decide (y<0)))≤1000000000000000000 then (iR (vE (x.natAbs*y.natAbs) d (up != (decide (x<0) != decide (y<0)))) (decide (x<0) != decide (y<0)),true) else (0,false):=by
 unfold mJ;rw [an9 x y hd,jD]
def jW (N:Int) (d:Nat):Int:=(2*N+d) / (2*(d:Int))
theorem L8 (N:Int) {d:Nat} (hd:0<d):jW N d*(2*(d:Int))≤2*N+d∧2*N+d<(jW N d+1)*(2*(d:Int)):=by
 unfold jW;refine ⟨Int.ediv_mul_le _ zo,?_⟩;have:=Int.lt_ediv_add_one_mul_self (2*N+(d:Int)) (b:=2*(d:Int)) zo;exact this
theorem EI {N n:Int} {d:Nat} (hd:0<d) (h1:n*(d:Int)≤N) (h2:N<(n+1)*(d:Int)):q9 N d false=n:=by
 unfold q9;rw [if_neg zi];refine Int.le_antisymm ?_ ((Int.le_ediv_iff_mul_le zo).2 h1);have:=(Int.ediv_lt_iff_lt_mul (c:=(d:Int)) zo).2 h2;omega
theorem Ov {N n:Int} {d:Nat} (hd:0<d) (h1:(n - 1)*(d:Int)<N) (h2:N≤n*(d:Int)):q9 N d true=n:=by
 unfold q9;rw [if_pos rfl]
 have: -N / (d:Int)= -n:=by
  refine Int.le_antisymm ?_ ((Int.le_ediv_iff_mul_le zo).2 (by rw [Int.neg_mul];omega))
  have:=(Int.ediv_lt_iff_lt_mul (a:= -N) (b:= -n+1) (c:=(d:Int)) zo).2 (by
   have e:(-n+1)*(d:Int)= -((n - 1)*(d:Int)):=by rw [← Int.neg_mul];congr 1;omega
   rw [e];omega)
  omega
 omega
def arE (N:Int) (d:Nat):(Int × Int) × Int :=
 if -9223372036854775808≤jW N d∧jW N d<9223372036854775808 then
  (if jl (jW N d) (jW N d) then jK (jW N d+(if N<jW N d*d then -1 else 0)) (jW N d+(if jW N d*d<N then 1 else 0)) else ((0,0),6))
 else ((0,0),6)
theorem az0 (N:Int) {d:Nat} (hd:0<d):arE N d=jK (q9 N d false) (q9 N d true):=by
 obtain ⟨h1,h2⟩:=L8 N hd;have m1:jW N d*(2*(d:Int))=2*(jW N d*(d:Int)):=by rw [← Int.mul_assoc,Int.mul_comm (jW N d) 2,Int.mul_assoc]
 have m2:(jW N d+1)*(2*(d:Int))=2*(jW N d*(d:Int))+2*(d:Int):=by rw [Int.add_mul,m1,Int.one_mul]
 rw [m1] at h1;rw [m2] at h2;unfold arE;generalize jW N d=n at *;have e1:(n+1)*(d:Int)=n*(d:Int)+d:=by rw [Int.add_mul,Int.one_mul]
 have e2:(n - 1)*(d:Int)=n*(d:Int) - d:=by rw [Int.sub_mul,Int.one_mul]
 have e3:(n - 1+1)*(d:Int)=n*(d:Int):=by congr 1;omega
 have e4:(n+1 - 1)*(d:Int)=n*(d:Int):=by congr 1;omega
 have key:∃ lo hi,q9 N d false=lo∧q9 N d true=hi∧lo=n+(if N<n*(d:Int) then -1 else 0)∧hi=n+(if n*(d:Int)<N then 1 else 0):=by
  rcases Int.lt_trichotomy N (n*(d:Int)) with c|c|c
  ·refine ⟨n - 1,n,EI hd zo zo,Ov hd zo zo,by rw [if_pos c];omega,by rw [if_neg zo];omega⟩
  ·refine ⟨n,n,EI hd zo zo,Ov hd zo zo,by rw [if_neg zo];omega,by rw [if_neg zo];omega⟩
  ·refine ⟨n,n+1,EI hd zo zo,Ov hd zo zo,by rw [if_neg zo];omega,by rw [if_pos c]⟩
 obtain ⟨lo,hi,k1,k2,k3,k4⟩:=key;rw [k1,k2,← k3,← k4];have hlo:lo=n∨lo=n - 1:=by rw [k3];split<;>omega
 have hhi:hi=n∨hi=n+1:=by rw [k4];split<;>omega
 have hor:lo=n∨hi=n:=by
  rw [k3,k4]
  by_cases c:N<n*(d:Int)
  ·right;rw [if_neg zo];omega
  ·left;rw [if_neg c];omega
 by_cases c1: -9223372036854775808≤n∧n<9223372036854775808
 ·rw [if_pos c1];cases hb:jl n n
  ·rw [if_neg zi];unfold jK;rw [if_neg];intro h;unfold jl at hb h;simp only [aF,decide_eq_true_eq,Bool.and_eq_false_iff,decide_eq_false_iff_not] at hb h;omega
  ·rw [if_pos rfl]
 ·rw [if_neg c1];unfold jK;rw [if_neg];intro h;unfold jl at h;simp only [aF,decide_eq_true_eq] at h;omega
end Go.Proofs.fB
namespace Go.fG
open Go Go.Num
theorem Fa (q:Rat) (E:Nat):q*((E:Nat):Rat)*((q.den:Nat):Rat)=((q.num*(E:Int):Int):Rat):=by
 have h:q*((q.den:Nat):Rat)=((q.num:Int):Rat):=by
  have h1:((q.num:Int):Rat) / ((q.den:Nat):Rat)=q:=by
   have:=Rat.mkRat_eq_div q.num q.den;rw [← this,Rat.mkRat_self]
  have h2:((q.den:Nat):Rat)≠0:=by have:=q.den_nz;exact_mod_cast this
  generalize ((q.den:Nat):Rat)=d at *;generalize ((q.num:Int):Rat)=m at *
  grind
 rw [Rat.intCast_mul,← h,Rat.intCast_natCast]
 grind
theorem VO (q:Rat) (n:Int) {E:Nat} (hE:0<E):q<(n:Rat) / ((E:Nat):Rat)↔q.num*(E:Int)<n*(q.den:Int):=by
 have hEq:(0:Rat)<((E:Nat):Rat):=by exact_mod_cast hE
 have hd:(0:Rat)<((q.den:Nat):Rat):=by exact_mod_cast q.den_pos
 rw [Rat.lt_div_iff hEq,← Rat.mul_lt_mul_right hd,Fa,← Rat.intCast_natCast,← Rat.intCast_mul,Rat.intCast_lt_intCast]
theorem Us (q:Rat) (n:Int) {E:Nat} (hE:0<E):(n:Rat) / ((E:Nat):Rat)<q↔n*(q.den:Int)<q.num*(E:Int):=by
 have hEq:(0:Rat)<((E:Nat):Rat):=by exact_mod_cast hE
 have hd:(0:Rat)<((q.den:Nat):Rat):=by exact_mod_cast q.den_pos
 rw [Rat.div_lt_iff hEq,← Rat.mul_lt_mul_right hd,Fa,← Rat.intCast_natCast,← Rat.intCast_mul,Rat.intCast_lt_intCast]
theorem Tx (q:Rat) (n:Int) {E:Nat} (hE:0<E):gZ q ((n:Rat) / ((E:Nat):Rat))=if q.num*(E:Int)<n*(q.den:Int) then -1 else if n*(q.den:Int)<q.num*(E:Int) then 1 else 0:=by
 unfold gZ;simp only [VO q n hE,Us q n hE]
end Go.fG
namespace Go.SW
open Go Go.RowKit
structure Wk (P:Program) (ops:Array Oper) (Q:Exit→Act→World→Prop) (N:Nat) (is:List (K × Nat)) (A:List Nat) (a:Act) (w:World):Prop where
 out:walk P ops Q N is A a w
variable {P:Program} {ops:Array Oper} {Q:Exit→Act→World→Prop} {o:Oper} {i:Nat} {is:List (K × Nat)} {a:Act} {w:World} {N:Nat} {A:List Nat}
theorem Qj {k:K} (hk:k.soft=true) (ho:ops[i]? =some o) (hw:Region.wanted o (yielded ops a.tmps)=false) (h:∀ J:Act→Prop,(∀ a,Wk P ops Q N is A a w→J a)→J (a.put o.dst undef)):Wk P ops Q N ((k,i)::is) A a w :=
 ⟨xg hk ho hw fun J hJ=>h J fun a ha=>hJ a ha.out⟩
theorem Jk (ho:ops[i]? =some o) (hw:Region.wanted o (yielded ops a.tmps)=true) (h:∀ J:Act→Prop,(∀ a,Wk P ops Q N is A a w→J a)→∃ v,(∀ w',(execOp a.eval o).run P w'= .ok (.value v) w')∧J (a.put o.dst v)):Wk P ops Q N ((.pure,i)::is) A a w :=
 ⟨Du ho hw fun J hJ=>h J fun a ha=>hJ a ha.out⟩
theorem Qk {T:TypeId} {x:Operand} {p:Addr} (ho:ops[i]? =some o) (hw:Region.wanted o (yielded ops a.tmps)=true) (hop:o.op= .load T x) (hx:a.eval x= ay (some p))
  (h:∀ J:Value→Prop,(∀ v,Wk P ops Q N is A (a.put o.dst v) w→J v)→(w.cell? p).isSome=true∧∃ v,(loadVar T p).run P w= .ok v w∧J v):Wk P ops Q N ((.read,i)::is) A a w :=
 ⟨Dv ho hw hop hx fun J hJ=>h J fun v hv=>hJ v hv.out⟩
theorem Og (ho:ops[i]? =some o) (hw:Region.wanted o (yielded ops a.tmps)=true) (h:∀ w',Bw w w'→∀ J:Act→World→Prop,(∀ a' w'',Below w'.heap.size w' w''→Wk P ops Q N is A a' w''→J a' w'')→o.wp P a w' J Q):Wk P ops Q N ((.ext,i)::is) A a w :=
 ⟨RU ho hw fun w' hb J hJ=>h w' hb J fun a' w'' hb' hk=>hJ a' w'' hb' hk.out⟩
theorem Un (l:List Oper) (hl:(i::is.map (·.2)).map (ops[·]?)=l.map some) (h:∀ w',Bw w w'→wpList P ops Q l a w'):Wk P ops Q N ((.fin,i)::is) A a w:=⟨cZ l hl h⟩
theorem Um {t:TypeId} {x:Operand} {p:Option Addr} {n c:Nat} (ho:ops[i]? =some o) (hw:Region.wanted o (yielded ops a.tmps)=true) (hop:o.op= .call { callee:=.builtin .len,args:=#[x],argTypes:=#[t] }) (hx:a.eval x= ah p n c) (ht:P.underlying t=some (.slice (P.elem t)))
  (h:∀ J:Act→Prop,(∀ a,Wk P ops Q N is A a w→J a)→J (a.put o.dst (Z I n))):Wk P ops Q N ((.pure,i)::is) A a w :=
 Jk ho hw fun J hJ=>⟨Z I n,fun w'=>by simp [execOp,hop,hx,resolve,invoke,builtin,Sem.run_bind,run_len_slice w' _ _ _ _ _ ht,goInt],h J hJ⟩
end Go.SW
namespace Go.Proofs
open Go.Shelf
def Tryz.lays134_ren:Go.Shelf.Ren:=⟨fun|134=>178|129=>251|n=>n,fun|53=>168|3=>3|4=>4|46=>249|5=>5|9=>9|n=>n,fun|n=>n⟩
theorem Tryz.lays134:Go.Proofs.Lays.n134 Tryz.prog Tryz.lays134_ren:={
 mixed:=by kernel_rfl
 f129:=Tryz.func251.trans (congrArg some zk)
 f134:=Tryz.func178.trans (congrArg some zk)
 t3:=Tryz.underlying3
 a3:=Tryz.isAgg3
 z3:=Tryz.sizeOf3
 v3:=Tryz.zeroValue3
 t4:=Tryz.underlying4
 a4:=Tryz.isAgg4
 z4:=Tryz.sizeOf4
 v4:=Tryz.zeroValue4
 t5:=Tryz.underlying5
 a5:=Tryz.isAgg5
 z5:=Tryz.sizeOf5
 v5:=Tryz.zeroValue5
 t9:=Tryz.underlying9
 a9:=Tryz.isAgg9
 z9:=Tryz.sizeOf9
 v9:=Tryz.zeroValue9
 t46:=Tryz.underlying249
 a46:=Tryz.isAgg249
 z46:=Tryz.sizeOf249
 v46:=Tryz.zeroValue249
 t53:=Tryz.underlying168
 a53:=Tryz.isAgg168
 z53:=Tryz.sizeOf168
 v53:=Tryz.zeroValue168 }
theorem Tryz.bits_LeadingZeros64 (x:Int) (w:World) (h0:0≤x) (h1:x≤18446744073709551615) :
  Calls Tryz.prog 178 #[Z .u64 x] w fun e w'=>e= aj (Z I (64 - (Lib.bitLen x.toNat:Int)))∧w'=w:=Any.bits_LeadingZeros64 Tryz.lays134 x w h0 h1
def Tryz.laysC174_ren:Go.Shelf.Ren:=⟨fun|174=>250|247=>288|245=>289|287=>306|279=>307|280=>308|281=>309|282=>310|321=>316|322=>317|316=>318|171=>149|205=>319|243=>223|246=>277|283=>299|284=>300|285=>301|286=>302|129=>251|317=>312|318=>313|319=>314|320=>315|337=>320|338=>321|n=>n,fun|9=>9|3=>3|2=>2|75=>251|85=>313|4=>4|167=>352|5=>5|53=>168|175=>353|46=>249|168=>355|37=>288|0=>0|210=>367|21=>21|127=>332|145=>372|143=>370|171=>345|173=>347|212=>360|51=>22|20=>20|213=>361|232=>373|233=>374|80=>224|n=>n,fun|15=>6|16=>7|17=>4|18=>8|19=>9|n=>n⟩
theorem Tryz.laysC174:Go.Proofs.LaysC.n174 Tryz.prog Tryz.laysC174_ren:={
 mixed:=by kernel_rfl
 f129:=Tryz.func251.trans (congrArg some zk)
 f171:=Tryz.func149.trans (congrArg some zk)
 f174:=Tryz.func250.trans (congrArg some zk)
 f205:=Tryz.func319.trans (congrArg some zk)
 f243:=Tryz.func223.trans (congrArg some zk)
 f245:=Tryz.func289.trans (congrArg some zk)
 f246:=Tryz.func277.trans (congrArg some zk)
 f247:=Tryz.func288.trans (congrArg some zk)
 f279:=Tryz.func307.trans (congrArg some zk)
 f280:=Tryz.func308.trans (congrArg some zk)
 f281:=Tryz.func309.trans (congrArg some zk)
 f282:=Tryz.func310.trans (congrArg some zk)
 f283:=Tryz.func299.trans (congrArg some zk)
 f284:=Tryz.func300.trans (congrArg some zk)
 f285:=Tryz.func301.trans (congrArg some zk)
 f286:=Tryz.func302.trans (congrArg some zk)
 f287:=Tryz.func306.trans (congrArg some zk)
 f316:=Tryz.func318.trans (congrArg some zk)
 f317:=Tryz.func312.trans (congrArg some zk)
 f318:=Tryz.func313.trans (congrArg some zk)
 f319:=Tryz.func314.trans (congrArg some zk)
 f320:=Tryz.func315.trans (congrArg some zk)
 f321:=Tryz.func316.trans (congrArg some zk)
 f322:=Tryz.func317.trans (congrArg some zk)
 f337:=Tryz.func320.trans (congrArg some zk)
 f338:=Tryz.func321.trans (congrArg some zk)
 t0:=Tryz.underlying0
 a0:=Tryz.isAgg0
 z0:=Tryz.sizeOf0
 v0:=Tryz.zeroValue0
 t2:=Tryz.underlying2
 a2:=Tryz.isAgg2
 z2:=Tryz.sizeOf2
 v2:=Tryz.zeroValue2
 t3:=Tryz.underlying3
 a3:=Tryz.isAgg3
 z3:=Tryz.sizeOf3
 v3:=Tryz.zeroValue3
 t4:=Tryz.underlying4
 a4:=Tryz.isAgg4
 z4:=Tryz.sizeOf4
 v4:=Tryz.zeroValue4
 t5:=Tryz.underlying5
 a5:=Tryz.isAgg5
 z5:=Tryz.sizeOf5
 v5:=Tryz.zeroValue5
 t9:=Tryz.underlying9
 a9:=Tryz.isAgg9
 z9:=Tryz.sizeOf9
 v9:=Tryz.zeroValue9
 t20:=Tryz.underlying20
 a20:=Tryz.isAgg20
 z20:=Tryz.sizeOf20
 v20:=Tryz.zeroValue20
 t21:=Tryz.underlying21
 a21:=Tryz.isAgg21
 z21:=Tryz.sizeOf21
 v21:=Tryz.zeroValue21
 t37:=Tryz.underlying288
 a37:=Tryz.isAgg288
 z37:=Tryz.sizeOf288
 v37:=Tryz.zeroValue288
 t46:=Tryz.underlying249
 a46:=Tryz.isAgg249
 z46:=Tryz.sizeOf249
 v46:=Tryz.zeroValue249
 t51:=Tryz.underlying22
 a51:=Tryz.isAgg22
 z51:=Tryz.sizeOf22
 v51:=Tryz.zeroValue22
 t53:=Tryz.underlying168
 a53:=Tryz.isAgg168
 z53:=Tryz.sizeOf168
 v53:=Tryz.zeroValue168
 t75:=Tryz.underlying251
 a75:=Tryz.isAgg251
 z75:=Tryz.sizeOf251
 v75:=Tryz.zeroValue251
 t85:=Tryz.underlying313
 a85:=Tryz.isAgg313
 z85:=Tryz.sizeOf313
 v85:=Tryz.zeroValue313
 t127:=Tryz.underlying332
 a127:=Tryz.isAgg332
 z127:=Tryz.sizeOf332
 v127:=Tryz.zeroValue332
 t143:=Tryz.underlying370
 a143:=Tryz.isAgg370
 z143:=Tryz.sizeOf370
 v143:=Tryz.zeroValue370
 t145:=Tryz.underlying372
 a145:=Tryz.isAgg372
 z145:=Tryz.sizeOf372
 v145:=Tryz.zeroValue372
 t167:=Tryz.underlying352
 a167:=Tryz.isAgg352
 z167:=Tryz.sizeOf352
 v167:=Tryz.zeroValue352
 t168:=Tryz.underlying355
 a168:=Tryz.isAgg355
 z168:=Tryz.sizeOf355
 v168:=Tryz.zeroValue355
 t171:=Tryz.underlying345
 a171:=Tryz.isAgg345
 z171:=Tryz.sizeOf345
 v171:=Tryz.zeroValue345
 t173:=Tryz.underlying347
 a173:=Tryz.isAgg347
 z173:=Tryz.sizeOf347
 v173:=Tryz.zeroValue347
 t175:=Tryz.underlying353
 a175:=Tryz.isAgg353
 z175:=Tryz.sizeOf353
 v175:=Tryz.zeroValue353
 t210:=Tryz.underlying367
 a210:=Tryz.isAgg367
 z210:=Tryz.sizeOf367
 v210:=Tryz.zeroValue367
 t212:=Tryz.underlying360
 a212:=Tryz.isAgg360
 z212:=Tryz.sizeOf360
 v212:=Tryz.zeroValue360
 t213:=Tryz.underlying361
 a213:=Tryz.isAgg361
 z213:=Tryz.sizeOf361
 t232:=Tryz.underlying373
 a232:=Tryz.isAgg373
 z232:=Tryz.sizeOf373
 v232:=Tryz.zeroValue373
 t233:=Tryz.underlying374
 a233:=Tryz.isAgg374
 z233:=Tryz.sizeOf374
 v233:=Tryz.zeroValue374
 g15:=by kernel_rfl
 g16:=by kernel_rfl
 g17:=by kernel_rfl
 g18:=by kernel_rfl
 g19:=by kernel_rfl
 t80:=Tryz.underlying224
 a80:=Tryz.isAgg224
 z80:=Tryz.sizeOf224
 v80:=Tryz.zeroValue224
 i0:=by kernel_rfl
 i2:=by kernel_rfl
 i3:=by kernel_rfl
 i4:=by kernel_rfl
 i5:=by kernel_rfl
 i9:=by kernel_rfl
 i20:=by kernel_rfl
 i21:=by kernel_rfl
 i37:=by kernel_rfl
 i46:=by kernel_rfl
 i51:=by kernel_rfl
 i53:=by kernel_rfl
 i75:=by kernel_rfl
 i80:=by kernel_rfl
 i85:=by kernel_rfl
 i127:=by kernel_rfl
 i143:=by kernel_rfl
 i145:=by kernel_rfl
 i167:=by kernel_rfl
 i168:=by kernel_rfl
 i171:=by kernel_rfl
 i173:=by kernel_rfl
 i175:=by kernel_rfl
 i210:=by kernel_rfl
 i212:=by kernel_rfl
 i232:=by kernel_rfl
 i233:=by kernel_rfl
 m15:=by kernel_rfl
 m16:=by kernel_rfl
 m17:=by kernel_rfl
 m18:=by kernel_rfl
 m19:=by kernel_rfl
 c0:=by kernel_rfl
 c2:=by kernel_rfl
 c3:=by kernel_rfl
 c4:=by kernel_rfl
 c5:=by kernel_rfl
 c9:=by kernel_rfl
 c20:=by kernel_rfl
 c21:=by kernel_rfl
 c37:=by kernel_rfl
 c46:=by kernel_rfl
 c51:=by kernel_rfl
 c53:=by kernel_rfl
 c75:=by kernel_rfl
 c80:=by kernel_rfl
 c85:=by kernel_rfl
 c127:=by kernel_rfl
 c143:=by kernel_rfl
 c145:=by kernel_rfl
 c167:=by kernel_rfl
 c168:=by kernel_rfl
 c171:=by kernel_rfl
 c173:=by kernel_rfl
 c175:=by kernel_rfl
 c210:=by kernel_rfl
 c212:=by kernel_rfl
 c213:=by kernel_rfl
 c232:=by kernel_rfl
 c233:=by kernel_rfl }
open Go.RowKit in
theorem Tryz.strconv_ParseInt_10_at64_ok (s:ByteArray) (hmax:s.size≤9223372036854775806) (v:Int) (h:Lib.parseIntB 64 s.data.toList= .ok v) (w:World) :
  Calls Tryz.prog 250 #[O s,Z I 10,Z I 64] w fun e w'=>e= aj (aD #[Z I v,.nilIface])∧(w'=w∨∃ t,w'=Lib.bytesWorld w 5 t):=Any.strconv_ParseInt_10_at64_ok Tryz.laysC174 s hmax v h w
open Go.RowKit in
theorem Tryz.strconv_ParseInt_10_at64_range (s:ByteArray) (hlim:s.size≤281474976710656) (h:Lib.parseIntB 64 s.data.toList= .range) (ev:Value) (w:World) (hv:w.cell? ⟨7,0,none⟩=some ev) (hev:ev= .nilIface∨∃ te pe,ev= .iface te pe) :
  Calls Tryz.prog 250 #[O s,Z I 10,Z I 64] w fun e w'=>∃ N,e= aj (aD #[Z I (Lib.intSat 64 s.data.toList),.iface 355 (ay (some ⟨N,0,none⟩))])∧w.heap.size≤N∧w'.heap[N]? =some (.cells #[O ⟨#[80,97,114,115,101,73,110,116]⟩,O s,ev] 367 (0,0))∧Bw w w':=Any.strconv_ParseInt_10_at64_range Tryz.laysC174 s hlim h ev w hv hev
def Tryz.lays264_ren:Go.Shelf.Ren:=⟨fun|264=>108|n=>n,fun|53=>168|46=>249|n=>n,fun|n=>n⟩
theorem Tryz.lays264:Go.Proofs.Lays.n264 Tryz.prog Tryz.lays264_ren:={
 mixed:=by kernel_rfl
 f264:=Tryz.func108.trans (congrArg some zk)
 t46:=Tryz.underlying249
 a46:=Tryz.isAgg249
 z46:=Tryz.sizeOf249
 v46:=Tryz.zeroValue249
 t53:=Tryz.underlying168
 a53:=Tryz.isAgg168
 z53:=Tryz.sizeOf168
 v53:=Tryz.zeroValue168 }
open Go.RowKit Go.Lib in
theorem Tryz.bits_Mul64 (x y:Nat) (hx:x<18446744073709551616) (hy:y<18446744073709551616) (w:World) :
  Calls Tryz.prog 108 #[Z .u64 x,Z .u64 y] w fun e w'=>e= aj (aD #[Z .u64 ((x*y / 18446744073709551616:Nat):Int),Z .u64 ((x*y%18446744073709551616:Nat):Int)])∧w'=w:=Any.bits_Mul64 Tryz.lays264 x y hx hy w
def Tryz.lays105_ren:Go.Shelf.Ren:=⟨fun|105=>168|212=>240|99=>241|165=>242|166=>228|170=>243|169=>229|263=>284|264=>108|206=>285|240=>278|241=>286|276=>303|277=>305|n=>n,fun|9=>9|3=>3|4=>4|20=>20|0=>0|46=>249|109=>303|5=>5|72=>290|76=>292|51=>22|146=>336|53=>168|148=>169|70=>287|37=>288|75=>251|127=>332|164=>349|80=>224|n=>n,fun|n=>n⟩
theorem Tryz.lays105:Go.Proofs.Lays.n105 Tryz.prog Tryz.lays105_ren:={
 mixed:=by kernel_rfl
 f99:=Tryz.func241.trans (congrArg some zk)
 f105:=Tryz.func168.trans (congrArg some zk)
 f165:=Tryz.func242.trans (congrArg some zk)
 f166:=Tryz.func228.trans (congrArg some zk)
 f169:=Tryz.func229.trans (congrArg some zk)
 f170:=Tryz.func243.trans (congrArg some zk)
 f206:=Tryz.func285.trans (congrArg some zk)
 f212:=Tryz.func240.trans (congrArg some zk)
 f240:=Tryz.func278.trans (congrArg some zk)
 f241:=Tryz.func286.trans (congrArg some zk)
 f263:=Tryz.func284.trans (congrArg some zk)
 f264:=Tryz.func108.trans (congrArg some zk)
 f276:=Tryz.func303.trans (congrArg some zk)
 f277:=Tryz.func305.trans (congrArg some zk)
 t0:=Tryz.underlying0
 a0:=Tryz.isAgg0
 z0:=Tryz.sizeOf0
 v0:=Tryz.zeroValue0
 t3:=Tryz.underlying3
 a3:=Tryz.isAgg3
 z3:=Tryz.sizeOf3
 v3:=Tryz.zeroValue3
 t4:=Tryz.underlying4
 a4:=Tryz.isAgg4
 z4:=Tryz.sizeOf4
 v4:=Tryz.zeroValue4
 t5:=Tryz.underlying5
 a5:=Tryz.isAgg5
 z5:=Tryz.sizeOf5
 v5:=Tryz.zeroValue5
 t9:=Tryz.underlying9
 a9:=Tryz.isAgg9
 z9:=Tryz.sizeOf9
 v9:=Tryz.zeroValue9
 t20:=Tryz.underlying20
 a20:=Tryz.isAgg20
 z20:=Tryz.sizeOf20
 v20:=Tryz.zeroValue20
 t37:=Tryz.underlying288
 a37:=Tryz.isAgg288
 z37:=Tryz.sizeOf288
 v37:=Tryz.zeroValue288
 t46:=Tryz.underlying249
 a46:=Tryz.isAgg249
 z46:=Tryz.sizeOf249
 v46:=Tryz.zeroValue249
 t51:=Tryz.underlying22
 a51:=Tryz.isAgg22
 z51:=Tryz.sizeOf22
 v51:=Tryz.zeroValue22
 t53:=Tryz.underlying168
 a53:=Tryz.isAgg168
 z53:=Tryz.sizeOf168
 v53:=Tryz.zeroValue168
 t70:=Tryz.underlying287
 a70:=Tryz.isAgg287
 z70:=Tryz.sizeOf287
 v70:=Tryz.zeroValue287
 t72:=Tryz.underlying290
 a72:=Tryz.isAgg290
 z72:=Tryz.sizeOf290
 v72:=Tryz.zeroValue290
 t75:=Tryz.underlying251
 a75:=Tryz.isAgg251
 z75:=Tryz.sizeOf251
 v75:=Tryz.zeroValue251
 t76:=Tryz.underlying292
 a76:=Tryz.isAgg292
 z76:=Tryz.sizeOf292
 v76:=Tryz.zeroValue292
 t109:=Tryz.underlying303
 a109:=Tryz.isAgg303
 z109:=Tryz.sizeOf303
 v109:=Tryz.zeroValue303
 t127:=Tryz.underlying332
 a127:=Tryz.isAgg332
 z127:=Tryz.sizeOf332
 v127:=Tryz.zeroValue332
 t146:=Tryz.underlying336
 a146:=Tryz.isAgg336
 z146:=Tryz.sizeOf336
 v146:=Tryz.zeroValue336
 t148:=Tryz.underlying169
 a148:=Tryz.isAgg169
 z148:=Tryz.sizeOf169
 v148:=Tryz.zeroValue169
 t164:=Tryz.underlying349
 a164:=Tryz.isAgg349
 z164:=Tryz.sizeOf349
 v164:=Tryz.zeroValue349 }
theorem Tryz.Builder_Extra_105:Builder.Extra Tryz.prog Tryz.lays105_ren:={
 sizeBuilder:=by kernel_rfl
 liesBuilder:=by kernel_rfl
 t5:=Tryz.underlying5
 a5:=Tryz.isAgg5
 z5:=Tryz.sizeOf5
 v5:=Tryz.zeroValue5
 infoByte:=by kernel_rfl
 cellsByte:=by kernel_rfl
 sizeByte:=by kernel_rfl
 neB5:=by decide }
open Go.RowKit Go.Lib in
theorem Tryz.strings_Repeat (s:ByteArray) (c:Nat) (w:World) (hc:c≤9223372036854775807) (hlen:s.size*c≤140737488355328) :
  Calls Tryz.prog 168 #[O s,Z I c] w fun e w'=>e= aj (O ⟨(Lib.repeatL s.data.toList c).toArray⟩)∧Bw w w':=Any.strings_Repeat Tryz.lays105 Tryz.Builder_Extra_105 s c w hc hlen
end Go.Proofs
namespace Go.Proofs.power
open Go Go.RowKit Go.SW Go.Num Go.Mem Go.Proofs Go.Proofs.fB
def eok (p q:Int):Bool:=decide (1≤p)&&(decide (p≤36)&&(decide (1≤q)&&decide (q≤12)))
theorem oP (p q:Int) (w:World):Calls Tryz.prog 50 #[aB #[Z I p,Z I q]] w (fun e w'=>e= aj (ak (eok p q))∧Bw w w'):=by
 unfold eok;cases h1:decide (1≤p)<;>cases h2:decide (p≤36)<;>cases h3:decide (1≤q)<;>cases h4:decide (q≤12)
 all_goals
  go_enter Tryz.func50,Tryz.ntmps50
  go_wp2_with fail
  go_ret
  exact ⟨rfl,aI⟩
def Y7 (a b:Int × Int):Value:=if a.2≠0 then aD #[aB #[Z I 0,Z I 0],Z I a.2] else if b.2≠0 then aD #[aB #[Z I 0,Z I 0],Z I b.2] else
 if jl a.1 b.1 then aD #[aB #[Z I a.1,Z I b.1],Z I 0] else aD #[aB #[Z I 0,Z I 0],Z I 6]
theorem OI (lo hi:Int) (f:Value) (F:FuncId) (caps free:Array Value) (a b:Int × Int) (w:World) (hf:f= .func (.func F) caps free)
  (h1:∀ W,Bw w W→Calls Tryz.prog F (caps++#[Z I lo,ak false]) W (fun e w'=>e= aj (aD #[Z I a.1,Z I a.2])∧Bw W w'))
  (h2:∀ W,Bw w W→Calls Tryz.prog F (caps++#[Z I hi,ak true]) W (fun e w'=>e= aj (aD #[Z I b.1,Z I b.2])∧Bw W w')) (hfr:free=#[])
  (hen:∀ args W,(callFunc F args).run Tryz.prog W= .ok (.enter F args) W) :
  Calls Tryz.prog 51 #[Z I lo,Z I hi,f] w (fun e w'=>e= aj (Y7 a b)∧Bw w w'):=by
 subst hf hfr;obtain ⟨a1,a2⟩:=a;obtain ⟨b1,b2⟩:=b;have H1:=zh h1;have H2:=zh h2;have HO:=zh (fun W=>uf a1 b1 W);unfold Y7;simp only;clear h1 h2;go_enter Tryz.func51,Tryz.ntmps51
 go_wp2_with fail
 refine (H1.out _ aI).mono ?_;rintro e w1 ⟨rfl,hb1⟩;have hx:=aA.later (aA.new w #[Z I 0,Z I 0] 26) hb1;have HX:=zh hx;have HB1:=zh (Bt (show Below w.heap.size w (w.alloc (.cells #[Z I 0,Z I 0] 26)) from aI) hb1);clear hx hb1
 by_cases ha:a2=0
 ·subst ha;go_wp2_with fail
  refine (H2.out _ HB1.out).mono ?_;rintro e w2 ⟨rfl,hb2⟩;replace HX:=zh (HX.out.later hb2);have HB2:=zh (Bt HB1.out hb2);clear hb2 HB1
  by_cases hb:b2=0
  ·subst hb;go_wp2_with fail
   refine (HO.out _).mono ?_;rintro e w3 ⟨rfl,hb3⟩;replace HX:=zh (HX.out.later hb3);have HB3:=zh (Bt HB2.out hb3);clear hb3 HB2;have hx:=HX.out;have cx:=hx.cell;have fx:=hx.free;have lx:=hx.lt;have hw:=HB3.out;cases hk:jl a1 b1
   all_goals
    go_wp2_with fail
    refine bX rfl rfl bq Tryz.underlying26 rfl zk ?_;exact ⟨by first|rfl|(rw [if_neg (fun h=>h rfl),if_neg (fun h=>h rfl),hk];rfl),aI⟩
  ·have g:(b2 == 0)=false:=beq_eq_false_iff_ne.2 hb;have hx:=HX.out;have cx:=hx.cell;have fx:=hx.free;have lx:=hx.lt;have hw:=HB2.out;go_wp2_with fail
   refine bX rfl rfl bq Tryz.underlying26 rfl zk ?_;exact ⟨by first|rfl|(rw [if_neg (fun h=>h rfl),if_pos hb];rfl),aI⟩
 ·have g:(a2 == 0)=false:=beq_eq_false_iff_ne.2 ha;have hx:=HX.out;have cx:=hx.cell;have fx:=hx.free;have lx:=hx.lt;have hw:=HB1.out;go_wp2_with fail
  refine bX rfl rfl bq Tryz.underlying26 rfl zk ?_;exact ⟨by first|rfl|(rw [if_pos ha];rfl),aI⟩
end Go.Proofs.power
namespace Go.Num
def irt (k:Nat):Nat→Nat→Nat
 | 0,_=>0
 | f+1,n=>if (2*irt k f (n / 2^k)+1)^k≤n then 2*irt k f (n / 2^k)+1 else 2*irt k f (n / 2^k)
def iX (k n:Nat):Nat:=irt k (n.log2 / k+1) n
theorem Ml {k:Nat} (hk:0<k):∀ f n,n<2^(k*f)→irt k f n^k≤n∧n<(irt k f n+1)^k
 | 0,n,h=>by
  have:n=0:=by simpa using h
  subst this;refine ⟨?_,?_⟩
  ·show 0^k≤0
   rw [Nat.zero_pow hk];omega
  ·show 0<(0+1)^k
   simp
 | f+1,n,h=>by
  have hp:0<2^k:=Nat.pow_pos zo
  have h1:n / 2^k<2^(k*f):=by
   rw [dz hp,← gy];rw [aX] at h
   simpa using h
  obtain ⟨a,b⟩:=Ml hk f _ h1;unfold irt;generalize irt k f (n / 2^k)=r at *
  have e:(2*r)^k≤n:=by
   rw [Nat.mul_pow];have:=aT (2^k) a;have:=Nat.mul_div_le n (2^k);omega
  have e2:n<(2*r+1+1)^k:=by
   have h2:n<2^k*(n / 2^k+1):=by
    have:=Nat.lt_mul_div_succ n hp;exact this
   have h3:=aT (2^k) b;rw [show 2*r+1+1=2*(r+1) by omega,Nat.mul_pow];exact aP h2 h3
  split
  ·rename_i h4;exact ⟨h4,e2⟩
  ·rename_i h4;exact ⟨e,by omega⟩
theorem nC {k:Nat} (hk:0<k) (n:Nat):iX k n^k≤n∧n<(iX k n+1)^k:=by
 refine Ml hk _ _ ?_;refine aP (Nat.lt_log2_self (n:=n)) (bW zo ?_);have:=Nat.lt_mul_div_succ n.log2 hk;omega
theorem Mq {k n r:Nat} (hk:0<k) (h:n<(r+1)^k):iX k n≤r:=by
 obtain ⟨a,b⟩:=nC hk n
 have c:iX k n<r+1:=by
  refine Nat.lt_of_not_le fun h=>?_;have:=Nat.pow_le_pow_left h k;omega
 omega
theorem zX {k n r:Nat} (hk:0<k) (h:r^k≤n):r≤iX k n:=by
 obtain ⟨a,b⟩:=nC hk n
 have c:r<iX k n+1:=by
  refine Nat.lt_of_not_le fun h=>?_;have:=Nat.pow_le_pow_left h k;omega
 omega
theorem aD7 (r x k:Nat):r^k*x+r*x^k≤x^(k+1)+r^(k+1):=by
 rw [bS,bS]
 rcases Nat.le_total r x with h|h
 ·have hk:=Nat.pow_le_pow_left h k;obtain ⟨d,rfl⟩:=Nat.exists_eq_add_of_le h;obtain ⟨e,he⟩:=Nat.exists_eq_add_of_le hk;rw [he];generalize r^k=a;have:(a+e)*(r+d)+a*r=a*(r+d)+r*(a+e)+e*d:=by grind
  omega
 ·have hk:=Nat.pow_le_pow_left h k;obtain ⟨d,rfl⟩:=Nat.exists_eq_add_of_le h;obtain ⟨e,he⟩:=Nat.exists_eq_add_of_le hk;rw [he];generalize x^k=a;have:a*x+(a+e)*(x+d)=(a+e)*x+(x+d)*a+e*d:=by grind
  omega
theorem means (r x:Nat):∀ k,(k+1)*r*x^k≤k*x^(k+1)+r^(k+1)
 | 0=>by simp
 | k+1=>by
  have ih:=aU x (means r x k);have h:=aD7 r x (k+1);have e1:(k+1+1)*r*x^(k+1)=(k+1)*r*x^k*x+r*x^(k+1):=by rw [bS];grind
  have e2:(k+1)*x^(k+1+1)=k*x^(k+1)*x+x^(k+1+1):=by rw [bS x (k+1)];grind
  have e3:(k*x^(k+1)+r^(k+1))*x=k*x^(k+1)*x+r^(k+1)*x:=by rw [dM]
  omega
def OV (k m x:Nat):Nat:=(x*(k - 1)+m / x^(k - 1)) / k
theorem Zj {k m x:Nat} (hk:0<k) (hx:0<x):iX k m≤OV k m x:=by
 obtain ⟨a, -⟩:=nC hk m;generalize iX k m=r at *;obtain ⟨j,rfl⟩:=Nat.exists_eq_add_of_le' hk;unfold OV;rw [Nat.add_sub_cancel];rw [Nat.le_div_iff_mul_le zo];replace a:r^(j+1)≤m:=a
 show r*(j+1)≤_
 have hm:=means r x j;have hp:0<x^j:=Nat.pow_pos hx
 have h1:r*(j+1) - x*j≤m / x^j:=by
  rw [Nat.le_div_iff_mul_le hp,Nat.sub_mul];have e1:(j+1)*r*x^j=r*(j+1)*x^j:=by rw [aJ (j+1)]
  have e2:j*x^(j+1)=x*j*x^j:=by rw [bS];grind
  omega
 omega
theorem VB {k m x:Nat} (hk:0<k) (hx:0<x) (h1:iX k m≤x) (h2:x≤OV k m x):x=iX k m:=by
 obtain ⟨j,rfl⟩:=Nat.exists_eq_add_of_le' hk;unfold OV at h2;rw [Nat.add_sub_cancel] at h2;rw [Nat.le_div_iff_mul_le zo] at h2;have hp:0<x^j:=Nat.pow_pos hx;have h3:x≤m / x^j:=by rw [Nat.mul_succ] at h2;omega
 rw [Nat.le_div_iff_mul_le hp] at h3;have h4:x^(j+1)≤m:=by rw [bS,aJ];exact h3
 have:=zX hk h4;omega
theorem OT {k m l:Nat} (hk:0<k) (h:m<10^l):iX k m≤10^(l / k+1):=by
 refine Mq hk ?_;have h1:(10^(l / k+1))^k≤(10^(l / k+1)+1)^k:=Nat.pow_le_pow_left zo k;rw [← Nat.pow_mul] at h1
 have h2:10^l≤10^((l / k+1)*k):=bW zo (by
  have:=Nat.lt_mul_div_succ l hk;rw [aJ];omega)
 omega
end Go.Num
namespace Go.Num
def kW (n p q:Nat):Nat:=n^p*10^(12*q) / 10^(12*p)
def nT (n p q:Nat):Nat:=iX q (kW n p q)
def QJ (n p q:Nat):Bool:=decide (nT n p q^q*10^(12*p)=n^p*10^(12*q))
def phi (n p q:Nat):Nat:=if QJ n p q then nT n p q else nT n p q+1
theorem rD (k:Nat):0<10^k:=Nat.pow_pos zo
theorem LK {n p q:Nat} (h:p≤q):kW n p q=n^p*10^(12*(q - p)):=by
 unfold kW;rw [show 12*q=12*(q - p)+12*p by omega,gy,← dA,Nat.mul_div_cancel _ (rD _)]
theorem LM {n p q:Nat} (h:q≤p):kW n p q=n^p / 10^(12*(p - q)):=by
 unfold kW;rw [show 12*p=12*(p - q)+12*q by omega,gy,Nat.mul_div_mul_right _ _ (rD _)]
theorem Fw {n p q x:Nat}:x≤kW n p q↔x*10^(12*p)≤n^p*10^(12*q):=by
 unfold kW;exact Nat.le_div_iff_mul_le (rD _)
theorem vY {q:Nat} (hq:0<q) (n p:Nat):nT n p q^q*10^(12*p)≤n^p*10^(12*q)∧n^p*10^(12*q)<(nT n p q+1)^q*10^(12*p):=by
 obtain ⟨h1,h2⟩:=nC hq (kW n p q);refine ⟨Fw.1 h1,?_⟩;rw [← Nat.not_le];exact fun h=>absurd (Fw.2 h) (Nat.not_le.2 h2)
theorem JU {n p q r:Nat} (hq:0<q) (h:r^q*10^(12*p)≤n^p*10^(12*q)):r≤nT n p q:=zX hq (Fw.2 h)
theorem yL (n p q:Nat):nT n p q≤phi n p q∧phi n p q≤nT n p q+1:=by
 unfold phi;split<;>omega
theorem LP {q:Nat} (hq:0<q) (n p:Nat):n^p*10^(12*q)≤phi n p q^q*10^(12*p):=by
 unfold phi;split
 ·rename_i h;exact Nat.le_of_eq (of_decide_eq_true h).symm
 ·exact kM (vY hq n p).2
theorem OB {n p q r:Nat} (hq:0<q) (h:n^p*10^(12*q)≤r^q*10^(12*p)):phi n p q≤r:=by
 have s:=vY hq n p
 have hr:nT n p q≤r:=by
  rcases aH r (nT n p q) with h1|h1
  ·have a:=au s.1 h;have b:r^q*10^(12*p)<nT n p q^q*10^(12*p):=(Nat.mul_lt_mul_right (rD _)).2 (Nat.pow_lt_pow_left h1 zo);omega
  ·exact h1
 unfold phi;split
 ·exact hr
 ·rename_i h1
  rcases Nat.eq_or_lt_of_le hr with e|h2
  ·refine absurd ?_ h1;rw [← e] at h;unfold QJ;exact decide_eq_true (Nat.le_antisymm s.1 h)
  ·omega
theorem YG {B k:Nat} (h:B=10^k) (b:Nat):10^(k+b)=B*10^b:=by rw [h,gy]
theorem Y3 {n p q:Nat} (hq:0<q) (p36:p≤36) (q12:q≤12) (h:10^600≤n^p):10^18<nT n p q:=by
 obtain ⟨B,eB⟩:∃ B,B=10^600:=⟨_,rfl⟩;rw [← eB] at h;refine JU hq ?_
 have h1:(10^18+1)^q≤2^q*10^(18*q):=by
  rw [Nat.pow_mul,← Nat.mul_pow];exact Nat.pow_le_pow_left zd q
 have h2:2^q≤2^12:=bW zo q12;have h3:2^12≤10^4:=by decide
 have h4:(10^18+1)^q≤10^(4+18*q):=by
  rw [gy];exact au h1 (aU _ (au h2 h3))
 calc (10^18+1)^q*10^(12*p)≤10^(4+18*q)*10^(12*p):=aU _ h4
  _=10^(4+18*q+12*p):=(gy ..).symm
  _≤10^(600+12*q):=bW zo zo
  _=B*10^(12*q):=YG eB _
  _≤n^p*10^(12*q):=aU _ h
end Go.Num
namespace Go.Num
theorem ao5 {n p q:Nat} (h:p≤q):QJ n p q=decide (nT n p q^q=kW n p q):=by
 unfold QJ;rw [LK h,show 12*q=12*(q - p)+12*p by omega,gy 10,← dA];exact decide_eq_decide.2 ⟨fun e=>Nat.eq_of_mul_eq_mul_right (rD _) e,fun e=>by rw [e]⟩
theorem ao6 {n p q:Nat} (hq:0<q) (h:q≤p):QJ n p q=(decide (nT n p q^q=kW n p q)&&decide (n^p%10^(12*(p - q))=0)):=by
 have hs:=(nC hq (kW n p q)).1;have hd:=dG (n^p) (10^(12*(p - q)));have hp:=rD (12*(p - q));unfold QJ;rw [Bool.and_eq_decide];refine decide_eq_decide.2 ?_;rw [show 12*p=12*(p - q)+12*q by omega,gy 10,← dA];rw [← LM h] at hd
 change nT n p q^q≤kW n p q at hs
 simp only [decide_eq_true_eq]
 constructor
 ·intro e;have e:=Nat.eq_of_mul_eq_mul_right (rD _) e
  have h1:nT n p q^q*10^(12*(p - q))≤10^(12*(p - q))*kW n p q:=by
   rw [aJ];exact aT _ hs
  refine ⟨?_,by omega⟩;refine Nat.eq_of_mul_eq_mul_right hp ?_;rw [aJ (kW n p q)];omega
 ·rintro ⟨e1,e2⟩;rw [e1,← hd,e2,fZ,aJ (kW n p q)]
theorem Xu {q x:Nat} (hq:0<q) (q12:q≤12) (h:10^600≤x):10^18<iX q x:=by
 refine zX hq (au ?_ h);have h1:(10^18+1)^q≤(10^18+1)^12:=bW zo q12;have h2:(10^18+1)^12≤10^600:=by decide+kernel
 exact au h1 h2
def yR (n p q:Nat) (up:Bool):Int × Int:=if nT n p q≤10^18 then (((if up then phi n p q else nT n p q:Nat):Int),0) else (0,6)
theorem aa1 {n p q:Nat} {up:Bool} (h:nT n p q≤10^18):yR n p q up=(((nT n p q:Nat):Int)+(if (up&& !(QJ n p q)) then 1 else 0),0):=by
 unfold yR phi;rw [if_pos h];cases up<;>cases QJ n p q<;>simp
end Go.Num
namespace Go.Num
structure Jf (b Y1 Y0 un d q r:Nat):Prop where
 h1:q*Y1+r=un
 h2:(un*b+d) / (Y1*b+Y0)≤q
theorem Jf.start {b Y1 Y0 un d:Nat} (hb:0<b) (hY:0<Y1) (hd:d<b):Jf b Y1 Y0 un d (un / Y1) (un - un / Y1*Y1):=by
 have h:=Nat.div_mul_le_self un Y1;refine ⟨by omega,?_⟩
 have e:(un*b+d) / b=un:=by
  rw [aJ,Nat.mul_add_div hb,fD hd,fZ]
 calc (un*b+d) / (Y1*b+Y0)≤(un*b+d) / (Y1*b):=Nat.div_le_div_left zo (gV hY hb)
  _=(un*b+d) / b / Y1:=by rw [Nat.div_div_eq_div_mul,aJ Y1 b]
  _=un / Y1:=by rw [e]
theorem Jf.step {b Y1 Y0 un d q r:Nat} (h:Jf b Y1 Y0 un d q r) (hY:0<Y1) (hd:d<b) (hun:un<Y1*b+Y0) (c:b≤q∨b*r+d<q*Y0):Jf b Y1 Y0 un d (q - 1) (r+Y1)∧1≤q:=by
 obtain ⟨h1,h2⟩:=h;have hb:0<b:=by omega
 have ZW:0<Y1*b+Y0:=by have:=gV hY hb;omega
 have key:(un*b+d) / (Y1*b+Y0)<q:=by
  rcases c with c|c
  ·refine aP ?_ c;rw [dz ZW];have:(un+1)*b≤(Y1*b+Y0)*b:=aU b hun;rw [Nat.succ_mul] at this;rw [aJ b];omega
  ·rw [dz ZW];have e1:un*b=q*Y1*b+b*r:=by rw [← h1,dM,aJ r b]
   rw [aX,← dA,e1];omega
 have hq:1≤q:=Nat.lt_of_le_of_lt (Nat.zero_le _) key;refine ⟨⟨?_,Nat.le_sub_one_of_lt key⟩,hq⟩
 have:q*Y1=(q - 1)*Y1+Y1:=by
  conv=>lhs;rw [show q=q - 1+1 by omega,Nat.succ_mul]
 omega
theorem Jf.stop {b Y1 Y0 un d q r:Nat} (h:Jf b Y1 Y0 un d q r) (hY:0<Y1) (hb:0<b) (c:q*Y0≤b*r+d):q=(un*b+d) / (Y1*b+Y0):=by
 obtain ⟨h1,h2⟩:=h;have ZW:0<Y1*b+Y0:=by have:=gV hY hb;omega
 refine Nat.le_antisymm ?_ h2;rw [Nat.le_div_iff_mul_le ZW,aX,← dA,← h1,dM,aJ r b];omega
theorem Jf.brk {b Y1 Y0 un d q r:Nat} (h:Jf b Y1 Y0 un d q r) (hY:0<Y1) (hb:0<b) (hY0:Y0<b) (hun:un<Y1*b+Y0) (c:b≤r):q=(un*b+d) / (Y1*b+Y0):=by
 refine h.stop hY hb ?_
 have hq:q<b:=by
  have h1:=h.h1
  have:q*Y1<b*Y1:=by
   rw [aJ b Y1];omega
  exact Nat.lt_of_mul_lt_mul_right this
 have a1:q*Y0≤b*b:=fq (kM hq) (kM hY0);have a2:b*b≤b*r:=aT b c;omega
theorem aa5 {b un d1 d0 Y:Nat} (hY:0<Y):((un*b+d1) / Y)*b+((un*b+d1)%Y*b+d0) / Y=(un*b*b+d1*b+d0) / Y∧((un*b+d1)%Y*b+d0)%Y=(un*b*b+d1*b+d0)%Y:=by
 have h:=dG (un*b+d1) Y
 have e:un*b*b+d1*b+d0=Y*((un*b+d1) / Y*b)+((un*b+d1)%Y*b+d0):=by
  have:un*b*b+d1*b=(un*b+d1)*b:=by rw [dM]
  rw [this]
  conv=>lhs;rw [← h,dM]
  rw [← dA,kY]
 rw [e];refine ⟨?_,?_⟩
 ·rw [Nat.mul_add_div hY]
 ·rw [Nat.mul_add_mod]
theorem shifted {hi lo s:Nat} (hs:s≤63) (Zw:lo<18446744073709551616) :
  (hi*2^s+lo / 2^(64 - s))*4294967296*4294967296+lo*2^s%18446744073709551616 / 4294967296*4294967296+lo*2^s%18446744073709551616%4294967296=(hi*18446744073709551616+lo)*2^s∧lo / 2^(64 - s)<2^s:=by
 have e:(18446744073709551616:Nat)=2^(64 - s)*2^s:=by
  rw [← gy,show 64 - s+s=64 by omega]
 have h1:lo*2^s / 18446744073709551616=lo / 2^(64 - s):=by
  conv=>lhs;rw [e]
  exact Nat.mul_div_mul_right _ _ (Nat.pow_pos zo)
 have h2:=dG (lo*2^s) 18446744073709551616;have h3:=dG (lo*2^s%18446744073709551616) 4294967296;refine ⟨?_,?_⟩
 ·rw [h1] at h2
  have h4:(hi*18446744073709551616+lo)*2^s=hi*2^s*18446744073709551616+lo*2^s:=by
   rw [dM,Nat.mul_right_comm]
  rw [h4];omega
 ·rw [dz (Nat.pow_pos zo),aJ,← e];exact Zw
end Go.Num
namespace Go.Proofs.bits
open Go Go.RowKit Go.SW Go.Num Go.Mem Go.Proofs Go.Shelf
theorem VN {y:Nat} (h0:0<y) (h:y<18446744073709551616):∃ s:Nat,s≤63∧(64:Int) - (Lib.bitLen y:Int)=(s:Int)∧9223372036854775808≤y*2^s∧y*2^s<18446744073709551616:=by
 obtain ⟨h1,h2,h3⟩:=Lib.bitLenAux_bounds 64 y h zo;have h4:=Lib.bitLen_le y 64 zo h;have e:Lib.bitLenAux 64 y=Lib.bitLen y:=rfl;rw [e] at h1 h2 h3;generalize Lib.bitLen y=b at *;refine ⟨64 - b,by omega,by omega,?_,?_⟩
 ·have:2^(b - 1)*2^(64 - b)≤y*2^(64 - b):=aU _ h2;rw [← gy,show b - 1+(64 - b)=63 by omega] at this
  simpa using this
 ·have:y*2^(64 - b)<2^b*2^(64 - b):=Nat.mul_lt_mul_of_pos_right h3 (Nat.pow_pos zo);rw [← gy,show b+(64 - b)=64 by omega] at this
  simpa using this
def Wds (Y1 Y0 L1 L0:Nat):Prop:=2147483648≤Y1∧Y1<4294967296∧Y0<4294967296∧L1<4294967296∧L0<4294967296
theorem av7 {Y1 Y0 U d q r:Nat} (h:Jf 4294967296 Y1 Y0 U d q r) (h1:2147483648≤Y1) (hU:U<18446744073709551616):q<18446744073709551616:=by
 have e:=h.h1
 rcases aY q with h|h
 ·omega
 ·have:=Nat.le_mul_of_pos_right q (show 0<Y1 by omega);omega
theorem uw {Y1 Y0 L1 L0 U d q r:Nat} (h:Jf 4294967296 Y1 Y0 U d q r) (hr:r<4294967296) (hb:Wds Y1 Y0 L1 L0) (hU:U<Y1*4294967296+Y0) (hd:d<4294967296) (c:4294967296≤q∨4294967296*r+d<q*Y0) :
  ∃ q' r':Nat,Hid (Jf 4294967296 Y1 Y0 U d q' r')∧Hid (q'<q)∧IntKind.u64.wrap ((q:Int) - 1)=(q':Int)∧IntKind.u64.wrap ((r:Int)+(Y1:Int))=(r':Int):=by
 unfold Wds at hb;have hq:=av7 h hb.1 zo;obtain ⟨hd2,hq1⟩:=h.step zo hd hU c;refine ⟨_,_,zh hd2,zh zo,?_,?_⟩
 ·rw [IntKind.wrap_u64];omega
 ·rw [IntKind.wrap_u64];omega
theorem uU {Y1 Y0 L1 L0 d q r:Nat} (hq:q<4294967296) (hr:r<4294967296) (hb:Wds Y1 Y0 L1 L0) (hd:d<4294967296) :
  ∃ T V:Nat,Hid (q*Y0=T)∧Hid (4294967296*r+d=V)∧IntKind.u64.wrap ((q:Int)*(Y0:Int))=(T:Int)∧IntKind.u64.wrap (IntKind.u64.wrap (4294967296*(r:Int))+(d:Int))=(V:Int):=by
 unfold Wds at hb;refine ⟨_,_,zh rfl,zh rfl,?_,?_⟩
 ·have:q*Y0≤4294967295*4294967295:=fq zo zo;rw [← Int.natCast_mul,IntKind.wrap_u64];generalize q*Y0=T at *;omega
 ·rw [IntKind.wrap_u64,IntKind.wrap_u64];omega
theorem Ip {U d Y q:Nat} (hY:0<Y) (hq:q=(U*4294967296+d) / Y) (hd:d<4294967296) (ZX:Y<18446744073709551616) :
  IntKind.u64.wrap (IntKind.u64.wrap (IntKind.u64.wrap ((U:Int)*4294967296)+(d:Int)) - IntKind.u64.wrap ((q:Int)*(Y:Int)))=(((U*4294967296+d)%Y:Nat):Int):=by
 have h:=dG (U*4294967296+d) Y;have hm:=gH (U*4294967296+d) hY;rw [← hq] at h;have e:(q:Int)*(Y:Int)=((Y*q:Nat):Int):=by rw [Int.natCast_mul,Int.mul_comm]
 rw [e];generalize Y*q=T at *;generalize (U*4294967296+d)%Y=V at *;rw [IntKind.wrap_u64,IntKind.wrap_u64,IntKind.wrap_u64,IntKind.wrap_u64];omega
theorem uD {U L1 L0 Y Y1 Y0 q:Nat} (hq:q=(U*4294967296+L1) / (Y1*4294967296+Y0)) (hY:Y1*4294967296+Y0=Y) (hb:Wds Y1 Y0 L1 L0) (hUY:U<Y) (ZX:Y<18446744073709551616) :
  ∃ W q0 r0:Nat,Hid (W=(U*4294967296+L1)%Y)∧Hid (W<Y)∧IntKind.u64.wrap (IntKind.u64.wrap (IntKind.u64.wrap ((U:Int)*4294967296)+(L1:Int)) - IntKind.u64.wrap ((q:Int)*(Y:Int)))=(W:Int)∧IntKind.u64.wrap ((W:Int) / (Y1:Int))=(q0:Int)∧IntKind.u64.wrap ((W:Int) - IntKind.u64.wrap ((q0:Int)*(Y1:Int)))=(r0:Int)∧Hid (r0<4294967296)∧Hid (∀ d,d<4294967296→Jf 4294967296 Y1 Y0 W d q0 r0):=by
 unfold Wds at hb;rw [hY] at hq;have hYp:0<Y:=by omega
 have h1:=Ip hYp hq hb.2.2.2.1 ZX;have hm:=gH (U*4294967296+L1) hYp;obtain ⟨W,eW⟩:∃ W,(U*4294967296+L1)%Y=W:=⟨_,rfl⟩;rw [eW] at h1 hm;refine ⟨W,W / Y1,W - W / Y1*Y1,zh eW.symm,zh hm,h1,?_,?_,zh ?_,zh fun d hd=>Jf.start zo zo hd⟩
 ·rw [← Int.natCast_ediv,IntKind.wrap_u64];have:=Nat.div_le_self W Y1;generalize W / Y1=q at *;omega
 ·have:=Nat.div_mul_le_self W Y1;rw [← Int.natCast_mul,IntKind.wrap_u64,IntKind.wrap_u64];omega
 ·have h2:=dG W Y1;have h3:=gH W (show 0<Y1 by omega);rw [aJ] at h2;omega
theorem kQ {U L1 L0 Y Y1 Y0 q q0 W:Nat} (hq:q=(U*4294967296+L1) / (Y1*4294967296+Y0)) (hq0:q0=(W*4294967296+L0) / (Y1*4294967296+Y0)) (hW:W=(U*4294967296+L1)%Y) (hb:Wds Y1 Y0 L1 L0) (hY:Y1*4294967296+Y0=Y) (ZX:Y<18446744073709551616) (hN:(U*4294967296*4294967296+L1*4294967296+L0) / Y<18446744073709551616) :
  IntKind.u64.wrap (IntKind.u64.wrap ((q:Int)*4294967296)+(q0:Int))=(((U*4294967296*4294967296+L1*4294967296+L0) / Y:Nat):Int)∧IntKind.u64.wrap (IntKind.u64.wrap (IntKind.u64.wrap ((W:Int)*4294967296)+(L0:Int)) - IntKind.u64.wrap ((q0:Int)*(Y:Int)))=(((U*4294967296*4294967296+L1*4294967296+L0)%Y:Nat):Int):=by
 unfold Wds at hb;rw [hY] at hq hq0;have hYp:0<Y:=by omega
 obtain ⟨h1,h2⟩:=aa5 (b:=4294967296) (un:=U) (d1:=L1) (d0:=L0) hYp;rw [← hq,← hW,← hq0] at h1;rw [← hW] at h2;refine ⟨?_,?_⟩
 ·rw [← h1] at hN ⊢;rw [IntKind.wrap_u64,IntKind.wrap_u64];omega
 ·rw [Ip hYp hq0 hb.2.2.2.2 ZX,h2]
theorem XY (hi lo y:Nat) (hy:hi<y) (y64:y<18446744073709551616) (Zw:lo<18446744073709551616) (w:World) :
  Calls Tryz.prog 110 #[Z .u64 (hi:Int),Z .u64 (lo:Int),Z .u64 (y:Int)] w (fun e w'=>e= aj (aD #[Z .u64 (((hi*18446744073709551616+lo) / y:Nat):Int),Z .u64 (((hi*18446744073709551616+lo)%y:Nat):Int)])∧Bw w w'):=by
 have q1:¬ (y:Int)=0:=by omega
 have q2:¬ (y:Int)≤(hi:Int):=by omega
 by_cases h0:hi=0
 ·subst h0;go_enter Tryz.func110,Tryz.ntmps110
  go_wp2_with fail
  refine aO [(.pure,0),(.pure,1),(.pure,2),(.pure,3),(.pure,4),(.pure,5),(.fin,6),(.fin,7)] zk zk zR zP ?_;refine Wk.out ?_
  (iterate 6 refine zU ?_)
  refine Un [_,_] rfl (fun wf hbf=>?_);go_wp2_with fail
  go_ret2
  have e1:IntKind.u64.wrap ((lo:Int) / (y:Int))=(((0*18446744073709551616+lo) / y:Nat):Int):=by
   rw [Nat.zero_mul,dP,IntKind.wrap_u64];have:=Nat.div_le_self lo y;rw [← Int.natCast_ediv];generalize lo / y=q at *;omega
  have e2:(lo:Int)%(y:Int)=(((0*18446744073709551616+lo)%y:Nat):Int):=by
   rw [Nat.zero_mul,dP];omega
  rw [e1,e2];exact ⟨rfl,((Below.refl _ w).drew.trans (hbf.mono (aC _)))⟩
 ·obtain ⟨s,hs,e1,e2,e3⟩:=VN (y:=y) zo y64;have LZ:=zh (fun W=>(Tryz.bits_LeadingZeros64 (y:Int) W zo zo));rw [Int.toNat_natCast,e1] at LZ;have q3:¬ (hi:Int)=0:=by omega
  obtain ⟨hN,hlt⟩:=shifted (hi:=hi) hs Zw;have hm:min s 64=s:=by omega
  have hp2:0<2^s:=Nat.pow_pos zo;have hw:IntKind.u64.wrap (s:Int)=(s:Int):=by rw [IntKind.wrap_u64];omega
  have hAY:hi*2^s+2^s≤y*2^s:=by
   have:=aU (2^s) hy;rw [Nat.succ_mul] at this;exact this
  have cY:(y:Int)*2^s=((y*2^s:Nat):Int):=by simp
  have cA:(hi:Int)*2^s=((hi*2^s:Nat):Int):=by simp
  have cL:(lo:Int)*2^s=((lo*2^s:Nat):Int):=by simp
  have cB:(lo:Int) / 2^(64 - s)=((lo / 2^(64 - s):Nat):Int):=by simp
  have hOr:bits BinOp.or IntKind.u64 ((hi*2^s:Nat):Int) ((lo / 2^(64 - s):Nat):Int)=((hi*2^s+lo / 2^(64 - s):Nat):Int):=by
   rw [bits_or_u64_nat _ _ zo (by have:=Nat.div_le_self lo (2^(64 - s));omega)]
   congr 1
   rw [aJ hi];exact (Nat.two_pow_add_eq_or_of_lt hlt hi).symm
  have hyd:∀ a:Nat,a / y=a*2^s / (y*2^s)∧a%y=a*2^s%(y*2^s) / 2^s:=fun a=>by
   have hp:0<2^s:=Nat.pow_pos zo;refine ⟨(Nat.mul_div_mul_right _ _ hp).symm,?_⟩;rw [Nat.mul_mod_mul_right,Nat.mul_div_cancel _ hp]
  have hNB:(hi*18446744073709551616+lo) / y<18446744073709551616:=by
   rw [dz zo];omega
  rw [(hyd _).1,← hN] at hNB;rw [(hyd _).1,(hyd _).2,← hN];have cS:∀ a:Nat,(a:Int) / 2^s=((a / 2^s:Nat):Int):=fun a=>by simp
  have hYp:2^63≤y*2^s:=e2;obtain ⟨Y,eY⟩:∃ Y,y*2^s=Y:=⟨_,rfl⟩;obtain ⟨A,eA⟩:∃ A,hi*2^s=A:=⟨_,rfl⟩;obtain ⟨B,eB⟩:∃ B,lo / 2^(64 - s)=B:=⟨_,rfl⟩;obtain ⟨L,eL⟩:∃ L,lo*2^s=L:=⟨_,rfl⟩;rw [eY,eA] at hAY;rw [eY] at e2 e3 cY hYp;rw [eA] at cA;rw [eL] at cL;rw [eB] at cB hlt;rw [eA,eB] at hOr;rw [eY,eA,eB,eL];rw [eY,eA,eB,eL] at hNB;obtain ⟨L',eL'⟩:∃ L',L%18446744073709551616=L':=⟨_,rfl⟩;obtain ⟨U,eU⟩:∃ U,A+B=U:=⟨_,rfl⟩;rw [eU] at hOr;rw [eL',eU];rw [eL',eU] at hNB;have hUY:U<Y:=by omega
  have w1:IntKind.u64.wrap (Y:Int)=(Y:Int):=by rw [IntKind.wrap_u64];omega
  have w2:IntKind.u64.wrap (A:Int)=(A:Int):=by rw [IntKind.wrap_u64];omega
  have w3:IntKind.u64.wrap (L:Int)=(L':Int):=by rw [IntKind.wrap_u64];omega
  have a1:bits BinOp.and IntKind.u64 (Y:Int) 4294967295=((Y%4294967296:Nat):Int):=Mul64.maskN Y zo;have a2:bits BinOp.and IntKind.u64 (L':Int) 4294967295=((L'%4294967296:Nat):Int):=Mul64.maskN L' zo;have d1:(Y:Int) / 4294967296=((Y / 4294967296:Nat):Int):=by omega
  have d2:(L':Int) / 4294967296=((L' / 4294967296:Nat):Int):=by omega
  have ZW:Y / 4294967296*4294967296+Y%4294967296=Y:=by rw [aJ];exact dG Y 4294967296
  obtain ⟨Y1,eY1⟩:∃ Y1,Y / 4294967296=Y1:=⟨_,rfl⟩;obtain ⟨Y0,eY0⟩:∃ Y0,Y%4294967296=Y0:=⟨_,rfl⟩;obtain ⟨L1,eL1⟩:∃ L1,L' / 4294967296=L1:=⟨_,rfl⟩;obtain ⟨L0,eL0⟩:∃ L0,L'%4294967296=L0:=⟨_,rfl⟩;have b1:2147483648≤Y1∧Y1<4294967296∧Y0<4294967296∧L1<4294967296∧L0<4294967296:=by omega
  rw [eY1] at d1 ZW;rw [eY0] at a1 ZW;rw [eL1] at d2;rw [eL0] at a2;rw [eL1,eL0];rw [eL1,eL0] at hNB;obtain ⟨hst⟩:Nonempty (Jf 4294967296 Y1 Y0 U L1 (U / Y1) (U - U / Y1*Y1)):=⟨Jf.start zo zo zo⟩
  have hQ:IntKind.u64.wrap ((U:Int) / (Y1:Int))=((U / Y1:Nat):Int):=by
   rw [← Int.natCast_ediv,IntKind.wrap_u64];have:=Nat.div_le_self U Y1;generalize U / Y1=q at *;omega
  have hr1:=Nat.div_mul_le_self U Y1
  have hr2:U - U / Y1*Y1<Y1:=by
   have:=dG U Y1;have:=gH U (show 0<Y1 by omega);rw [aJ] at hr1 ⊢;omega
  have hR:IntKind.u64.wrap ((U:Int) - IntKind.u64.wrap (((U / Y1:Nat):Int)*(Y1:Int)))=((U - U / Y1*Y1:Nat):Int):=by
   rw [← Int.natCast_mul,IntKind.wrap_u64,IntKind.wrap_u64];omega
  obtain ⟨q,eq⟩:∃ q,U / Y1=q:=⟨_,rfl⟩;obtain ⟨r,er⟩:∃ r,U - U / Y1*Y1=r:=⟨_,rfl⟩;rw [er,eq] at hst hR;rw [eq] at hQ;rw [er] at hr2;have e3':=e3;have HST:=zh hst;have HNB:=zh hNB;have HB1:Hid (Wds Y1 Y0 L1 L0):=zh b1;have hz:¬ (Y1:Int)=0:=by omega
  have HUY:=zh hUY;have Dm:=zh ZW;clear hNB y64 Zw hst hN hlt hAY hyd e1 e2 e3 hr1 er eq b1 hUY ZW eY1 eY0 eL1 eL0 eU eL' eY eA eB eL hYp;go_enter Tryz.func110,Tryz.ntmps110
  go_wp2_with fail
  refine (LZ.out _).mono ?_;rintro e w' ⟨rfl,rfl⟩;go_wp2_with fail
  have RL1:Hid (r<4294967296):=zh (by have:=HB1.out.2.1;omega);have Ue:=zh e3';have ST1:=HST;have yu:=zh (Below.refl w'.heap.size w');clear hr2 HST
  go_loopw [15,16] (fun qv rv wr=>∃ q r:Nat,qv= Z .u64 (q:Int)∧rv= Z .u64 (r:Int)∧Hid (Jf 4294967296 Y1 Y0 U L1 q r)∧Hid (r<4294967296)∧Hid (Bw w' wr)) (fun qv _ _=>(intOf qv).toNat)
  case atStart=>exact ⟨q,r,rfl,rfl,ST1,RL1,yu⟩
  case round =>
   clear ST1 RL1 yu;obtain ⟨q,r,rfl,rfl,HST,XK,yu⟩:=hrel;have HT:=zh (uw HST.out XK.out HB1.out (by rw [Dm.out];exact HUY.out) HB1.out.2.2.2.1)
   rcases aH q 4294967296 with h1|h1
   ·have g1:decide ((4294967296:Int)≤(q:Int))=false:=decide_eq_false zo;obtain ⟨T,V,NK,HE2,m1,m2⟩:=uU h1 XK.out HB1.out HB1.out.2.2.2.1;clear h1
    rcases aH V T with h2|h2
    ·have g2:(V:Int)<(T:Int):=by omega
     obtain ⟨q',r',HD,HL,w1,w2⟩:=HT.out (.inr (by rw [NK.out,HE2.out];exact h2));clear h2
     rcases aH r' 4294967296 with h3|h3
     ·have g3:decide ((4294967296:Int)≤(r':Int))=false:=decide_eq_false zo;have Qe:=zh h3;clear h3;go_wp2_with fail
      go_roundw
      case rel=>exact ⟨q',r',rfl,rfl,HD,Qe,yu⟩
      case measure=>have:=HL.out;simp [intOf];omega
     ·have g3:decide ((4294967296:Int)≤(r':Int))=true:=decide_eq_true zo;have HQ:=zh (HD.out.brk (aP zo HB1.out.1) zo HB1.out.2.2.1 ((by rw [Dm.out];exact HUY.out)) h3);clear h3;obtain ⟨W,q0,r0,HW,XE,x1,x2,x3,RL2,BI⟩:=uD HQ.out Dm.out HB1.out HUY.out Ue.out;have TU:=HQ;have ST2:=zh (BI.out L0 HB1.out.2.2.2.2);clear HQ BI;go_wp2_with fail
      go_loopw [18,16] (fun qv rv wr=>∃ q r:Nat,qv= Z .u64 (q:Int)∧rv= Z .u64 (r:Int)∧Hid (Jf 4294967296 Y1 Y0 W L0 q r)∧Hid (r<4294967296)∧Hid (Bw w' wr)) (fun qv _ _=>(intOf qv).toNat)
      case atStart=>exact ⟨q0,r0,rfl,rfl,ST2,RL2,yu⟩
      case round =>
       clear ST2 RL2 yu;obtain ⟨q,r,rfl,rfl,HST,XK,yu⟩:=hrel;have HT:=zh (uw HST.out XK.out HB1.out (by rw [Dm.out];exact XE.out) HB1.out.2.2.2.2)
       rcases aH q 4294967296 with h1|h1
       ·have g1:decide ((4294967296:Int)≤(q:Int))=false:=decide_eq_false zo;obtain ⟨T,V,NK,HE2,m1,m2⟩:=uU h1 XK.out HB1.out HB1.out.2.2.2.2;clear h1
        rcases aH V T with h2|h2
        ·have g2:(V:Int)<(T:Int):=by omega
         obtain ⟨q',r',HD,HL,w1,w2⟩:=HT.out (.inr (by rw [NK.out,HE2.out];exact h2));clear h2
         rcases aH r' 4294967296 with h3|h3
         ·have g3:decide ((4294967296:Int)≤(r':Int))=false:=decide_eq_false zo;have Qe:=zh h3;clear h3;go_wp2_with fail
          go_roundw
          case rel=>exact ⟨q',r',rfl,rfl,HD,Qe,yu⟩
          case measure=>have:=HL.out;simp [intOf];omega
         ·have g3:decide ((4294967296:Int)≤(r':Int))=true:=decide_eq_true zo;have HQ:=zh (HD.out.brk (aP zo HB1.out.1) zo HB1.out.2.2.1 ((by rw [Dm.out];exact XE.out)) h3);clear h3;have HE:=zh (kQ TU.out HQ.out HW.out HB1.out Dm.out Ue.out HNB.out);have e1:=HE.out.1;have e2:=HE.out.2;go_wp2_with fail
          go_ret2
          exact ⟨by simp,yu.out⟩
        ·have g2:¬ (V:Int)<(T:Int):=by omega
         have HQ:=zh (HST.out.stop (aP zo HB1.out.1) zo (by rw [NK.out,HE2.out];exact h2));clear h2;have HE:=zh (kQ TU.out HQ.out HW.out HB1.out Dm.out Ue.out HNB.out);have e1:=HE.out.1;have e2:=HE.out.2;go_wp2_with fail
         go_ret2
         exact ⟨by simp,yu.out⟩
       ·have g1:decide ((4294967296:Int)≤(q:Int))=true:=decide_eq_true zo;obtain ⟨q',r',HD,HL,w1,w2⟩:=HT.out (.inl h1);clear h1
        rcases aH r' 4294967296 with h3|h3
        ·have g3:decide ((4294967296:Int)≤(r':Int))=false:=decide_eq_false zo;have Qe:=zh h3;clear h3;go_wp2_with fail
         go_roundw
         case rel=>exact ⟨q',r',rfl,rfl,HD,Qe,yu⟩
         case measure=>have:=HL.out;simp [intOf];omega
        ·have g3:decide ((4294967296:Int)≤(r':Int))=true:=decide_eq_true zo;have HQ:=zh (HD.out.brk (aP zo HB1.out.1) zo HB1.out.2.2.1 ((by rw [Dm.out];exact XE.out)) h3);clear h3;have HE:=zh (kQ TU.out HQ.out HW.out HB1.out Dm.out Ue.out HNB.out);have e1:=HE.out.1;have e2:=HE.out.2;go_wp2_with fail
         go_ret2
         exact ⟨by simp,yu.out⟩
    ·have g2:¬ (V:Int)<(T:Int):=by omega
     have HQ:=zh (HST.out.stop (aP zo HB1.out.1) zo (by rw [NK.out,HE2.out];exact h2));clear h2;obtain ⟨W,q0,r0,HW,XE,x1,x2,x3,RL2,BI⟩:=uD HQ.out Dm.out HB1.out HUY.out Ue.out;have TU:=HQ;have ST2:=zh (BI.out L0 HB1.out.2.2.2.2);clear HQ BI;go_wp2_with fail
     go_loopw [18,16] (fun qv rv wr=>∃ q r:Nat,qv= Z .u64 (q:Int)∧rv= Z .u64 (r:Int)∧Hid (Jf 4294967296 Y1 Y0 W L0 q r)∧Hid (r<4294967296)∧Hid (Bw w' wr)) (fun qv _ _=>(intOf qv).toNat)
     case atStart=>exact ⟨q0,r0,rfl,rfl,ST2,RL2,yu⟩
     case round =>
      clear ST2 RL2 yu;obtain ⟨q,r,rfl,rfl,HST,XK,yu⟩:=hrel;have HT:=zh (uw HST.out XK.out HB1.out (by rw [Dm.out];exact XE.out) HB1.out.2.2.2.2)
      rcases aH q 4294967296 with h1|h1
      ·have g1:decide ((4294967296:Int)≤(q:Int))=false:=decide_eq_false zo;obtain ⟨T,V,NK,HE2,m1,m2⟩:=uU h1 XK.out HB1.out HB1.out.2.2.2.2;clear h1
       rcases aH V T with h2|h2
       ·have g2:(V:Int)<(T:Int):=by omega
        obtain ⟨q',r',HD,HL,w1,w2⟩:=HT.out (.inr (by rw [NK.out,HE2.out];exact h2));clear h2
        rcases aH r' 4294967296 with h3|h3
        ·have g3:decide ((4294967296:Int)≤(r':Int))=false:=decide_eq_false zo;have Qe:=zh h3;clear h3;go_wp2_with fail
         go_roundw
         case rel=>exact ⟨q',r',rfl,rfl,HD,Qe,yu⟩
         case measure=>have:=HL.out;simp [intOf];omega
        ·have g3:decide ((4294967296:Int)≤(r':Int))=true:=decide_eq_true zo;have HQ:=zh (HD.out.brk (aP zo HB1.out.1) zo HB1.out.2.2.1 ((by rw [Dm.out];exact XE.out)) h3);clear h3;have HE:=zh (kQ TU.out HQ.out HW.out HB1.out Dm.out Ue.out HNB.out);have e1:=HE.out.1;have e2:=HE.out.2;go_wp2_with fail
         go_ret2
         exact ⟨by simp,yu.out⟩
       ·have g2:¬ (V:Int)<(T:Int):=by omega
        have HQ:=zh (HST.out.stop (aP zo HB1.out.1) zo (by rw [NK.out,HE2.out];exact h2));clear h2;have HE:=zh (kQ TU.out HQ.out HW.out HB1.out Dm.out Ue.out HNB.out);have e1:=HE.out.1;have e2:=HE.out.2;go_wp2_with fail
        go_ret2
        exact ⟨by simp,yu.out⟩
      ·have g1:decide ((4294967296:Int)≤(q:Int))=true:=decide_eq_true zo;obtain ⟨q',r',HD,HL,w1,w2⟩:=HT.out (.inl h1);clear h1
       rcases aH r' 4294967296 with h3|h3
       ·have g3:decide ((4294967296:Int)≤(r':Int))=false:=decide_eq_false zo;have Qe:=zh h3;clear h3;go_wp2_with fail
        go_roundw
        case rel=>exact ⟨q',r',rfl,rfl,HD,Qe,yu⟩
        case measure=>have:=HL.out;simp [intOf];omega
       ·have g3:decide ((4294967296:Int)≤(r':Int))=true:=decide_eq_true zo;have HQ:=zh (HD.out.brk (aP zo HB1.out.1) zo HB1.out.2.2.1 ((by rw [Dm.out];exact XE.out)) h3);clear h3;have HE:=zh (kQ TU.out HQ.out HW.out HB1.out Dm.out Ue.out HNB.out);have e1:=HE.out.1;have e2:=HE.out.2;go_wp2_with fail
        go_ret2
        exact ⟨by simp,yu.out⟩
   ·have g1:decide ((4294967296:Int)≤(q:Int))=true:=decide_eq_true zo;obtain ⟨q',r',HD,HL,w1,w2⟩:=HT.out (.inl h1);clear h1
    rcases aH r' 4294967296 with h3|h3
    ·have g3:decide ((4294967296:Int)≤(r':Int))=false:=decide_eq_false zo;have Qe:=zh h3;clear h3;go_wp2_with fail
     go_roundw
     case rel=>exact ⟨q',r',rfl,rfl,HD,Qe,yu⟩
     case measure=>have:=HL.out;simp [intOf];omega
    ·have g3:decide ((4294967296:Int)≤(r':Int))=true:=decide_eq_true zo;have HQ:=zh (HD.out.brk (aP zo HB1.out.1) zo HB1.out.2.2.1 ((by rw [Dm.out];exact HUY.out)) h3);clear h3;obtain ⟨W,q0,r0,HW,XE,x1,x2,x3,RL2,BI⟩:=uD HQ.out Dm.out HB1.out HUY.out Ue.out;have TU:=HQ;have ST2:=zh (BI.out L0 HB1.out.2.2.2.2);clear HQ BI;go_wp2_with fail
     go_loopw [18,16] (fun qv rv wr=>∃ q r:Nat,qv= Z .u64 (q:Int)∧rv= Z .u64 (r:Int)∧Hid (Jf 4294967296 Y1 Y0 W L0 q r)∧Hid (r<4294967296)∧Hid (Bw w' wr)) (fun qv _ _=>(intOf qv).toNat)
     case atStart=>exact ⟨q0,r0,rfl,rfl,ST2,RL2,yu⟩
     case round =>
      clear ST2 RL2 yu;obtain ⟨q,r,rfl,rfl,HST,XK,yu⟩:=hrel;have HT:=zh (uw HST.out XK.out HB1.out (by rw [Dm.out];exact XE.out) HB1.out.2.2.2.2)
      rcases aH q 4294967296 with h1|h1
      ·have g1:decide ((4294967296:Int)≤(q:Int))=false:=decide_eq_false zo;obtain ⟨T,V,NK,HE2,m1,m2⟩:=uU h1 XK.out HB1.out HB1.out.2.2.2.2;clear h1
       rcases aH V T with h2|h2
       ·have g2:(V:Int)<(T:Int):=by omega
        obtain ⟨q',r',HD,HL,w1,w2⟩:=HT.out (.inr (by rw [NK.out,HE2.out];exact h2));clear h2
        rcases aH r' 4294967296 with h3|h3
        ·have g3:decide ((4294967296:Int)≤(r':Int))=false:=decide_eq_false zo;have Qe:=zh h3;clear h3;go_wp2_with fail
         go_roundw
         case rel=>exact ⟨q',r',rfl,rfl,HD,Qe,yu⟩
         case measure=>have:=HL.out;simp [intOf];omega
        ·have g3:decide ((4294967296:Int)≤(r':Int))=true:=decide_eq_true zo;have HQ:=zh (HD.out.brk (aP zo HB1.out.1) zo HB1.out.2.2.1 ((by rw [Dm.out];exact XE.out)) h3);clear h3;have HE:=zh (kQ TU.out HQ.out HW.out HB1.out Dm.out Ue.out HNB.out);have e1:=HE.out.1;have e2:=HE.out.2;go_wp2_with fail
         go_ret2
         exact ⟨by simp,yu.out⟩
       ·have g2:¬ (V:Int)<(T:Int):=by omega
        have HQ:=zh (HST.out.stop (aP zo HB1.out.1) zo (by rw [NK.out,HE2.out];exact h2));clear h2;have HE:=zh (kQ TU.out HQ.out HW.out HB1.out Dm.out Ue.out HNB.out);have e1:=HE.out.1;have e2:=HE.out.2;go_wp2_with fail
        go_ret2
        exact ⟨by simp,yu.out⟩
      ·have g1:decide ((4294967296:Int)≤(q:Int))=true:=decide_eq_true zo;obtain ⟨q',r',HD,HL,w1,w2⟩:=HT.out (.inl h1);clear h1
       rcases aH r' 4294967296 with h3|h3
       ·have g3:decide ((4294967296:Int)≤(r':Int))=false:=decide_eq_false zo;have Qe:=zh h3;clear h3;go_wp2_with fail
        go_roundw
        case rel=>exact ⟨q',r',rfl,rfl,HD,Qe,yu⟩
        case measure=>have:=HL.out;simp [intOf];omega
       ·have g3:decide ((4294967296:Int)≤(r':Int))=true:=decide_eq_true zo;have HQ:=zh (HD.out.brk (aP zo HB1.out.1) zo HB1.out.2.2.1 ((by rw [Dm.out];exact XE.out)) h3);clear h3;have HE:=zh (kQ TU.out HQ.out HW.out HB1.out Dm.out Ue.out HNB.out);have e1:=HE.out.1;have e2:=HE.out.2;go_wp2_with fail
        go_ret2
        exact ⟨by simp,yu.out⟩
end Go.Proofs.bits
namespace Go
end Go
namespace Go.Proofs.fB
open Go Go.RowKit Go.SW Go.Num Go.Mem Go.Proofs Go.fG
theorem az6 (b c:Nat) (zs:List Int) (z0:Int) (h0:zs[0]? =some z0) (arr:Array Value) (T:TypeId) (w:World) (hx:aA w b arr T) (hc:∀ j (h:j<zs.length),arr[j]? =some (.int .i64 zs[j])) (hl:zs.length≤9223372036854775807) :
  Calls Tryz.prog 176 #[ah (some ⟨b,0,none⟩) zs.length c] w (fun e w'=>e= aj (Z I (zs.foldl min z0))∧Bw w w'):=by
 have hn:0<zs.length:=by
  rcases aY zs.length with h|h
  ·rw [List.getElem?_eq_none zo] at h0;cases h0
  ·exact h
 have hz0:zs[0]=z0:=by
  rw [List.getElem?_eq_getElem hn] at h0;exact Option.some.inj h0
 have h00:w.cell? ⟨b,0,none⟩=some (.int .i64 z0):=by
  rw [hx.cell,hc 0 hn,hz0]
 have lb:=hx.lt;have g1:decide ((zs.length:Int)<1)=false:=by simp;omega
 have HX:=zh hx;have HC:=zh hc;clear hx hc;go_enter Tryz.func176,Tryz.ntmps176
 go_wp2_with fail
 go_loopw [3,4] (fun m i wr=>∃ k:Nat,0<k∧k≤zs.length∧i= Z I (k:Int)∧m= Z I ((zs.take k).foldl min z0)∧Bw w wr) (fun _ i _=>zs.length - (intOf i).toNat)
 case atStart =>
  refine ⟨1,by omega,hn,rfl,?_,Below.refl _ _⟩;cases zs with
  | nil=>simp at hn
  | cons x t =>
   simp only [List.getElem_cons_zero] at hz0;subst hz0;simp
 case round =>
  obtain ⟨k,hk0,hk,rfl,rfl,hb⟩:=hrel
  by_cases hlt:k<zs.length
  ·have hcell:=((HX.out.later hb).cell k).trans (HC.out k hlt)
   have hstep:(zs.take (k+1)).foldl min z0=min ((zs.take k).foldl min z0) zs[k]:=by
    rw [iq hlt,List.foldl_append];rfl
   have HS:=zh hstep;clear hstep;generalize zs[k]=zk at *;generalize (zs.take k).foldl min z0=mk at *;go_wp2_with fail
   go_roundw
   case rel=>exact ⟨k+1,by omega,by omega,by go_num,by rw [HS.out]<;>go_num,hb⟩
   case measure=>exact zM
  ·obtain rfl:k=zs.length:=by omega
   rw [eX];go_wp2_with fail
   go_ret
   exact ⟨rfl,hb⟩
theorem V4 (b c:Nat) (zs:List Int) (z0:Int) (h0:zs[0]? =some z0) (arr:Array Value) (T:TypeId) (w:World) (hx:aA w b arr T) (hc:∀ j (h:j<zs.length),arr[j]? =some (.int .i64 zs[j])) (hl:zs.length≤9223372036854775807) :
  Calls Tryz.prog 106 #[ah (some ⟨b,0,none⟩) zs.length c] w (fun e w'=>e= aj (Z I (zs.foldl min z0))∧Bw w w'):=by
 have H:=zh (az6 b c zs z0 h0 arr T w hx hc hl);clear h0 hx hc hl;generalize zs.length=n at *;generalize zs.foldl min z0=z at *;go_enter Tryz.func106,Tryz.ntmps106
 go_wp2_with fail
 refine H.out.mono ?_;rintro e w1 ⟨rfl,hb1⟩;go_wp2_with fail
 go_ret
 exact ⟨rfl,hb1⟩
theorem Jw (x:Int) (h1: -9223372036854775808<x) (h2:x<9223372036854775808) (w:World):Calls Tryz.prog 109 #[Z I x] w (fun e w'=>e= aj (Z .u64 (x.natAbs:Int))∧Bw w w'):=by
 by_cases h:x<0
 ·have e:IntKind.u64.wrap (I.wrap (-x))=(x.natAbs:Int):=by rw [IntKind.wrap_i64,IntKind.wrap_u64];omega
  go_enter Tryz.func109,Tryz.ntmps109
  go_wp2_with fail
  go_ret
  refine ⟨?_,Below.refl _ _⟩
  show Ending.returned (Z .u64 (-x))=_
  rw [show -x=(x.natAbs:Int) by omega]
 ·have e:IntKind.u64.wrap x=(x.natAbs:Int):=by rw [IntKind.wrap_u64];omega
  go_enter Tryz.func109,Tryz.ntmps109
  go_wp2_with fail
  go_ret
  exact ⟨rfl,Below.refl _ _⟩
def r9 (P d:Nat) (b neg:Bool):Int × Bool:=if vE P d b≤1000000000000000000 then (iR (vE P d b) neg,true) else (0,false)
theorem Vf {P d:Nat} {b neg:Bool} (h:1000000000000000000<P / d):r9 P d b neg=(0,false):=by
 unfold r9 vE;generalize P / d=q at *;rw [if_neg];split<;>omega
theorem Sr {P d:Nat} {neg:Bool} (hr:0<P%d) (h:1000000000000000000<P / d+1):r9 P d true neg=(0,false):=by
 unfold r9 vE;rw [if_pos (⟨hr,rfl⟩:0<P%d∧true=true),if_neg (by generalize P / d=q at*; omega)]
theorem YW {P d:Nat} {neg:Bool} (hr:0<P%d) (h:P / d+1≤1000000000000000000):r9 P d true neg=(iR (P / d+1) neg,true):=by
 unfold r9 vE;rw [if_pos (⟨hr,rfl⟩:0<P%d∧true=true),if_pos h]
theorem YX {P d:Nat} {b neg:Bool} (hr:P%d=0∨b=false) (h:P / d≤1000000000000000000):r9 P d b neg=(iR (P / d) neg,true):=by
 have hn:¬ (0<P%d∧b=true):=by
  rintro ⟨h1,h2⟩
  rcases hr with h3|h3
  ·omega
  ·rw [h3] at h2;cases h2
 have e:vE P d b=P / d:=if_neg hn;unfold r9;rw [e,if_pos h]
def oq (x y d:Int) (up:Bool):Int × Bool:=mJ (if d<0 then -x else x) y d.natAbs up
theorem Sq (d:Nat) (b n1 n2:Bool):r9 0 d b n1=r9 0 d b n2:=by
 have e:vE 0 d b=0:=by unfold vE;simp
 unfold r9 iR;rw [e];cases n1<;>cases n2<;>rfl
theorem YV (d:Nat) (b c n:Bool):r9 0 d b n=r9 0 d c n:=by
 have e:∀ b,vE 0 d b=0:=fun b=>by unfold vE;simp
 unfold r9;rw [e,e]
theorem UQ (n:Nat):iR n true= -(n:Int):=rfl
theorem UW (n:Nat):iR n false=(n:Int):=rfl
theorem Ve (x y d:Int) (hd:d≠0) (up:Bool):oq x y d up=r9 (x.natAbs*y.natAbs) d.natAbs (up != ((decide (x<0) != decide (y<0)) != decide (d<0))) ((decide (x<0) != decide (y<0)) != decide (d<0)):=by
 have hd':0<d.natAbs:=by omega
 unfold oq
 by_cases h:d<0
 ·rw [if_pos h,decide_eq_true h];have e:=LG (-x) y hd' up;rw [Int.natAbs_neg] at e;refine e.trans ?_
  show r9 _ _ _ _=_
  by_cases h0:x=0
  ·subst h0;rw [Int.natAbs_zero,Nat.zero_mul];exact (Sq _ _ _ _).trans (YV _ _ _ _)
  ·have:decide (-x<0)= !decide (x<0):=by
    by_cases hx:x<0
    ·rw [decide_eq_true hx,decide_eq_false zo];rfl
    ·rw [decide_eq_false hx,decide_eq_true zo];rfl
   rw [this];cases decide (x<0)<;>cases decide (y<0)<;>rfl
 ·rw [if_neg h,decide_eq_false h];refine (LG x y hd' up).trans ?_;rw [Bool.bne_false];rfl
theorem EN (x y d:Int) (up:Bool) (hx:x.natAbs≤1000000000000000000) (hy:y.natAbs≤1000000000000000000) (hd:d≠0) (hd2:d.natAbs≤1000000000000000000) (w:World) :
    Calls Tryz.prog 57 #[Z I x,Z I y,Z I d,ak up] w (fun e w'=>e= aj (aD #[Z I (oq x y d up).1,ak (oq x y d up).2])∧Bw w w'):=by
  have S1:=zh (fun W=>Jw x zo zo W);have S2:=zh (fun W=>Jw y zo zo W);have S3:=zh (fun W=>Jw d zo zo W);have hq:=Ve x y d hd up;obtain ⟨nx,ex⟩:∃ b,decide (x<0)=b:=⟨_,rfl⟩;obtain ⟨ny,ey⟩:∃ b,decide (y<0)=b:=⟨_,rfl⟩;obtain ⟨nd,ed⟩:∃ b,decide (d<0)=b:=⟨_,rfl⟩;rw [ex,ey,ed] at hq;obtain ⟨P,eP⟩:∃ P,x.natAbs*y.natAbs=P:=⟨_,rfl⟩;obtain ⟨D,eD⟩:∃ D,d.natAbs=D:=⟨_,rfl⟩;rw [eP,eD] at hq;rw [eD] at S3
  have hP:P<18446744073709551616*18446744073709551616:=by
    rw [← eP]
    calc x.natAbs*y.natAbs≤1000000000000000000*1000000000000000000:=fq hx hy
      _<_:=by decide
  have hD:0<D:=by omega
  have hD2:D≤1000000000000000000:=by omega
  rw [hq]
  have M1:Hid (∀ W,Calls Tryz.prog 108 #[Z .u64 (x.natAbs:Int),Z .u64 (y.natAbs:Int)] W (fun e w'=>e= aj (aD #[Z .u64 ((P / 18446744073709551616:Nat):Int),Z .u64 ((P%18446744073709551616:Nat):Int)])∧Bw W w')):=zh fun W=>by
    refine (Tryz.bits_Mul64 x.natAbs y.natAbs zo zo W).mono ?_;rintro e w' ⟨rfl,rfl⟩;rw [eP];exact ⟨rfl,Below.refl _ _⟩
  have hlo:=gH P (show 0<18446744073709551616 by omega);have Ta:=dG P 18446744073709551616
  have D1:Hid (P / 18446744073709551616<D→∀ W,Calls Tryz.prog 110 #[Z .u64 ((P / 18446744073709551616:Nat):Int),Z .u64 ((P%18446744073709551616:Nat):Int),Z .u64 (D:Int)] W (fun e w'=>e= aj (aD #[Z .u64 ((P / D:Nat):Int),Z .u64 ((P%D:Nat):Int)])∧Bw W w')):=zh fun hlt W=>by
    have:=bits.XY (P / 18446744073709551616) (P%18446744073709551616) D hlt zo hlo W;rw [show P / 18446744073709551616*18446744073709551616+P%18446744073709551616=P by rw [aJ];exact Ta] at this;exact this
  have hbig:D≤P / 18446744073709551616→18446744073709551616≤P / D:=fun h=>by
    rw [Nat.le_div_iff_mul_le hD];have:=aT 18446744073709551616 h;omega
  obtain ⟨hi,ehi⟩:∃ a,P / 18446744073709551616=a:=⟨_,rfl⟩;obtain ⟨lo,elo⟩:∃ a,P%18446744073709551616=a:=⟨_,rfl⟩;rw [ehi,elo] at M1 D1;rw [ehi] at hbig;have HBG:=zh hbig;clear hx hy hd hd2 hq eP eD hP hlo Ta ehi elo hbig hD hD2;obtain ⟨q,eq⟩:∃ a,P / D=a:=⟨_,rfl⟩;obtain ⟨r,er⟩:∃ a,P%D=a:=⟨_,rfl⟩;rw [eq,er] at D1;rw [eq] at HBG;have Q1:Hid (∀ b neg,1000000000000000000<q→r9 P D b neg=(0,false)):=zh fun b neg h=>Vf (by rw [eq];exact h);have Q2:Hid (∀ neg,0<r→1000000000000000000<q+1→r9 P D true neg=(0,false)):=zh fun neg h1 h2=>Sr (by rw [er];exact h1) (by rw [eq];exact h2);have Q3:Hid (∀ neg,0<r→q+1≤1000000000000000000→r9 P D true neg=(iR (q+1) neg,true)):=zh fun neg h1 h2=>by rw [YW (by rw [er];exact h1) (by rw [eq];exact h2),eq]
  have Q4:Hid (∀ b neg,(r=0∨b=false)→q≤1000000000000000000→r9 P D b neg=(iR q neg,true)):=zh fun b neg h1 h2=>by rw [YX (by rw [er];exact h1) (by rw [eq];exact h2),eq]
  clear eq er;generalize r9 P D=QR at *;obtain ⟨ng,hn⟩:∃ b,((nx != ny) != nd)=b:=⟨_,rfl⟩;rw [hn];obtain ⟨bb,hb0⟩:∃ b,(up != ng)=b:=⟨_,rfl⟩;rw [hb0];obtain ⟨⟨z1,z2⟩,hz⟩:∃ z,QR bb ng=z:=⟨_,rfl⟩;rw [hz];have HZ:=zh hz;clear hz;simp only;cases bb<;>cases nx<;>cases ny<;>cases nd<;>cases up
  all_goals first|(obtain rfl:true=ng:=hn)|(obtain rfl:false=ng:=hn)
  all_goals first|(exfalso;revert hb0;decide)|skip
  all_goals
    clear hb0;go_enter Tryz.func57,Tryz.ntmps57
    go_wp2_with fail
    refine (S1.out _).mono ?_;rintro e w1 ⟨rfl,hb⟩;have HB:=zh hb;clear hb;go_wp2_with fail
    refine (S2.out _).mono ?_;rintro e w2 ⟨rfl,hb⟩;replace HB:=zh (Bt HB.out hb);clear hb;go_wp2_with fail
    refine (M1.out _).mono ?_;rintro e w3 ⟨rfl,hb⟩;replace HB:=zh (Bt HB.out hb);clear hb;go_wp2_with fail
    refine (S3.out _).mono ?_;rintro e w4 ⟨rfl,hb⟩;replace HB:=zh (Bt HB.out hb);clear hb
    rcases aH hi D with c1|c1
    rotate_left
    · have g1:decide (D≤hi)=true:=decide_eq_true zo
      have g1':D≤hi:=c1;obtain ⟨rfl,rfl⟩:z1=0∧z2=false:=by have h:=HZ.out;rw [Q1.out _ _ (by have:=HBG.out c1;omega)] at h;cases h;exact ⟨rfl,rfl⟩
      clear c1 Q1 Q2 Q3 Q4 ex ey ed;go_wp2_with fail
      go_ret2
      exact ⟨rfl,HB.out⟩
    have g1:decide (D≤hi)=false:=decide_eq_false zo;have g1':¬ D≤hi:=by omega
    have D2:=zh (D1.out c1);clear c1 ex ey ed;go_wp2_with fail
    refine (S3.out _).mono ?_;rintro e w5 ⟨rfl,hb⟩;replace HB:=zh (Bt HB.out hb);clear hb;go_wp2_with fail
    refine (D2.out _).mono ?_;rintro e w6 ⟨rfl,hb⟩;replace HB:=zh (Bt HB.out hb);clear hb g1 g1' D1 D2
    rcases aH 1000000000000000000 q with c2|c2
    · have g2:decide ((1000000000000000000:Int)<(q:Int))=true:=decide_eq_true zo
      obtain ⟨rfl,rfl⟩:z1=0∧z2=false:=by have h:=HZ.out;rw [Q1.out _ _ c2] at h;cases h;exact ⟨rfl,rfl⟩
      have C2:=zh c2;clear c2 Q1 Q2 Q3 Q4;go_wp2_with fail
      go_ret2
      exact ⟨rfl,HB.out⟩
    have g2:decide ((1000000000000000000:Int)<(q:Int))=false:=decide_eq_false zo;have w1:I.wrap (q:Int)=(q:Int):=by rw [IntKind.wrap_i64];omega
    have w2:I.wrap (-(q:Int))= -(q:Int):=by rw [IntKind.wrap_i64];omega
    have w3:IntKind.u64.wrap ((q:Int)+1)=((q+1:Nat):Int):=by rw [IntKind.wrap_u64];omega
    rcases aY r with c3|c3
    · subst c3
      have h:=HZ.out;rw [Q4.out _ _ (.inl rfl) c2] at h
      first|rw [UQ] at h|rw [UW] at h
      cases h
      have C2:=zh c2;clear c2 Q1 Q2 Q3 Q4 w3;go_wp2_with fail
      go_ret2
      exact ⟨rfl,HB.out⟩
    have g3:(0:Int)<(r:Int):=by omega
    first
      | (have h:=HZ.out
         rw [Q4.out false _ (Or.inr rfl) c2] at h
         first|rw [UQ] at h|rw [UW] at h
         cases h
         have C2:=zh (And.intro c2 c3);clear c2 c3 Q1 Q2 Q3 Q4 w3;go_wp2_with fail
         go_ret2
         exact ⟨rfl,HB.out⟩)
      | (obtain ⟨q',eq'⟩:∃ a,q+1=a:=⟨_,rfl⟩
         rw [eq'] at w3 Q2 Q3
         rcases aH 1000000000000000000 q' with c4|c4
         · have g4:decide ((1000000000000000000:Int)<(q':Int))=true:=decide_eq_true zo
           obtain ⟨rfl,rfl⟩:z1=0∧z2=false:=by have h:=HZ.out;rw [Q2.out _ c3 c4] at h;cases h;exact ⟨rfl,rfl⟩
           have C2:=zh (And.intro c2 (And.intro c3 (And.intro c4 eq')));clear c2 c3 c4 eq' Q1 Q2 Q3 Q4 w1 w2;go_wp2_with fail
           go_ret2
           exact ⟨rfl,HB.out⟩
         · have g4:decide ((1000000000000000000:Int)<(q':Int))=false:=decide_eq_false zo
           have w1':I.wrap (q':Int)=(q':Int):=by rw [IntKind.wrap_i64];omega
           have w2':I.wrap (-(q':Int))= -(q':Int):=by rw [IntKind.wrap_i64];omega
           have h:=HZ.out;rw [Q3.out _ c3 c4] at h
           first|rw [UQ] at h|rw [UW] at h
           cases h
           have C2:=zh (And.intro c2 (And.intro c3 (And.intro c4 eq')));clear c2 c3 c4 eq' Q1 Q2 Q3 Q4 w1 w2;go_wp2_with fail
           go_ret2
           exact ⟨rfl,HB.out⟩)
theorem Vd (x y:Int) {d:Nat} (up:Bool):oq x y (d:Int) up=mJ x y d up:=by
 unfold oq;rw [if_neg zo,Int.natAbs_natCast]
theorem LD (x y:Int) (d:Nat) (up:Bool) (hx:x.natAbs≤1000000000000000000) (hy:y.natAbs≤1000000000000000000) (hd:0<d) (hd2:d≤1000000000000000000) (w:World) :
  Calls Tryz.prog 57 #[Z I x,Z I y,Z I (d:Int),ak up] w (fun e w'=>e= aj (aD #[Z I (mJ x y d up).1,ak (mJ x y d up).2])∧Bw w w'):=by
 have h:=EN x y (d:Int) up hx hy zo zo w;rw [Vd] at h;exact h
theorem ac9 (x y:Int) (up:Bool) (hx:x.natAbs≤1000000000000000000) (hy:y.natAbs≤1000000000000000000) (w:World) :
  Calls Tryz.prog 56 #[Z I x,Z I y,ak up] w (fun e w'=>e= aj (aD #[Z I (mJ x y 1000000000000 up).1,ak (mJ x y 1000000000000 up).2])∧Bw w w'):=by
 have H:=zh (fun W=>LD x y 1000000000000 up hx hy zo zo W);generalize mJ x y 1000000000000 up=z at *;obtain ⟨z1,z2⟩:=z;simp only at *;go_enter Tryz.func56,Tryz.ntmps56
 go_wp2_with fail
 refine (H.out _).mono ?_;rintro e w1 ⟨rfl,hb⟩;go_wp2_with fail
 go_ret2
 exact ⟨rfl,hb⟩
end Go.Proofs.fB
