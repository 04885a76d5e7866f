/- Lemmas for the proof. No condition. -/
import Derived.Test.YtlpjmogillpnbaaGreatDoorTB05
import Derived.Test.YtlpjmogillpnbaaGreatDoorTB09
import Derived.WalkMore
import Derived.Deep.RegionHeld
set_option linter.unusedVariables false
set_option linter.unusedSimpArgs false
set_option maxRecDepth 100000
set_option maxHeartbeats 16000000
open Bool renaming and_eq_true → aF
open Go.Ending renaming returned → ah
open Go.IntKind renaming i64 → I
open Go.Value renaming agg → au, bool → ay, int → Z, pointer → aA, slice → aj, tuple → aD
open List renaming all_eq_true → iP, getElem_mem → eX, take_length → dR
open Nat renaming div_add_mod → bP, eq_zero_or_pos → aS, le_refl → aI, le_trans → aB, lt_of_lt_of_le → aL, lt_or_ge → aO, mod_lt → dV, zero_add → dw
namespace Go.Fx
open Go Go.RowKit Go.SW Go.Mem
def Kept (l:List TypeId) (w w':World):Prop:=∀ b cs T,T∉l→aC w b cs T→aC w' b cs T
theorem Row.keep {l:List TypeId} {w w':World} {T:TypeId} {v:Value} {xs:List Value} (h:Row w T v xs) (k:Kept l w w') (hT:T∉l):Row w' T v xs:=by
 obtain ⟨a,cap,h1,h2,h3,h4,h5⟩:=h;refine ⟨a,cap,h1,h2,h3,h4,fun ad had=>?_⟩;obtain ⟨h6,arr,h7,h8⟩:=h5 ad had;exact ⟨h6,arr,k _ _ _ hT h7,h8⟩
theorem MO {l:List TypeId} {T:TypeId} (h:l.contains T=false):T∉l:=by simpa using h
theorem bC.keep {l:List TypeId} {w w':World} {v:Value} {n:Nat} (h:bC w v n) (k:Kept l w w') (hT:l.contains 133=false:=by kernel_rfl):bC w' v n:=Row.keep h k (MO hT)
def hold (L:Mm):List Nat:=(L.filter (·.o)).map (·.b)
def tys (L:Mm):List TypeId:=(L.filter (·.o)).map (·.T)
theorem MU {L:Mm} {j:Nat} {x:Bx} (h:L[j]? =some x) (ho:x.o=true):x.b∈hold L:=List.mem_map.2 ⟨x,List.mem_filter.2 ⟨List.mem_of_getElem? h,ho⟩,rfl⟩
structure Fa (w w0:World) (H:List Nat):Prop where
 below:Below w.heap.size w w0
 old:∀ b∈H,w.heap.size≤b
theorem Fa.nil (w:World):Fa w w []:=⟨Below.refl _ _,fun _ h=>by cases h⟩
section
variable {P:Program} {n:Nat} {R:Post} {w0 w1:World} {H0:List Nat} {p:Pos} {S:Sl} {L L0:Mm}
theorem Fa.at {w W:World} (B:Fa w w0 H0) (M:Mem w0 H0 L W):Below w.heap.size w W:=M.Bz.below B.below B.old
theorem Fa.next {w:World} (B:Fa w w0 H0) (M:Mem w0 H0 L w1):Fa w w1 (hold L):=⟨B.at M,fun b hb=>by
 obtain ⟨x,hx,rfl⟩:=List.mem_map.1 hb;obtain ⟨hx,ho⟩:=List.mem_filter.1 hx;obtain ⟨j,hj⟩:=List.getElem?_of_mem hx
 rcases M.own j x hj ho with h|h
 ·exact B.old _ h
 ·exact aB B.below.size h⟩
theorem Mem.YO {w:World} (h:Mem w0 H0 L w):Mem w (hold L) L w:=⟨h.all,h.O8,fun _ _ hx ho=>.inl (MU hx ho),qW.refl w⟩
theorem Mem.keep (M1:Mem w0 H0 L0 w1) {W:World} (M:Mem w1 (hold L0) L W):Kept (tys L0) w1 W:=fun b cs T hT hX=>by
 by_cases hb:b∈hold L0
 ·obtain ⟨x,hx,rfl⟩:=List.mem_map.1 hb;have hx2:=hx;obtain ⟨hx,ho⟩:=List.mem_filter.1 hx;obtain ⟨j,hj⟩:=List.getElem?_of_mem hx;have h2:=M1.all j x hj;unfold aC at h2 hX;rw [h2] at hX;cases hX
  exact absurd (List.mem_map.2 ⟨x,hx2,rfl⟩) hT
 ·exact M.Bz.box hX hb
def Zm (P:Program) (n:Nat) (R:Post) (w0:World) (H0:List Nat) (p:Pos) (d:Nat) (S:Sl) (L:Mm) (w w1:World):Ending→Prop
 | ah v=>Below w.heap.size w w1∧(Mem w0 H0 L w1→G P n R w1 (hold L) p.past ((d,v)::S) L)
 | _=>False
theorem j5 (hs:List Nat) (d:Nat) (St:Sl) (U:List (Nat × Array Value)) {f:FuncId} {args:Array Value} {E:World→Ending→World→Prop} (hC:∀ w,Mem w0 H0 (upd L U) w→Calls P f args w (E w))
  (hc:∀ w w1 e,Mem w0 H0 (upd L U) w→E w e w1→Zm P n R w0 H0 (tr 4000 hs p).2 d (St++S) (upd L U) w w1 e)
  (h:yZ P n w0 (tr 4000 hs p).1 S L St (upd L U):=by intro _;kernel_rfl) (hx:∀ w,nR P n w (rG P n w0 (tr 4000 hs p).1 S L) (tr 4000 hs p).2=some (d,f,args,w):=by intro _;kernel_rfl) (hal:(tr 4000 hs p).2.past.zH=true:=by kernel_rfl):G P n R w0 H0 p S L:=by
 refine O7 hs St _ h ?_;have hsub:=h.sub;have hh:=ou (hx w0);generalize rG P n w0 (tr 4000 hs p).1 S L=F at hx hsub ⊢;generalize (tr 4000 hs p).2=q at hc hx hal hh;generalize upd L U=L at hC hc;generalize St++S=S at hc hsub;obtain ⟨ops,o,hn,hf,hw,hd,hlt, -⟩:=iX (h:=hx w0);refine place hn hf hw (Y:=fun N H w a a' w1=>∃ v,a'=a.put (some d) v∧Below w.heap.size w w1∧Mem w0 H0 L w1∧G P n R w1 (hold L) q.past ((d,v)::F) L) (fun w N H hM hok a ha K hK k=>?_) fun w N H hM hok a a' w' ha hy=>?_
 ·obtain ⟨ops',o',hn', -, -, -, -, hr⟩:=iX (h:=hx w);rw [hn] at hn';cases hn'
  unfold Oper.wp;rw [ha.exec hf,hr];simp only [Oper.upon];refine (hC w hM).mono fun e w' he=>?_;have:=hc w w' e hM he;cases e with
  | returned v =>
   rw [hd];exact hK _ _ ⟨v,rfl,this.1,hM.later this.1,(this.2 (hM.later this.1)).of (kD hsub d v) hh⟩
  | _=>exact this.elim
 ·obtain ⟨v,rfl,h1,h2,h3⟩:=hy;refine ⟨fun _ _ _ _ _ _=>.of h1,_,ha.put hlt v,h3.out w' N H h2.YO ?_⟩;cases q with
  | pW ops Hj is A k =>
   cases is with
   | nil=>cases hn
   | cons x is =>
    obtain ⟨k1,k2,k3,k4⟩:=hok;refine ⟨fun hx=>?_,fun hx=>?_,k3,k4⟩<;>simp only [Pos.past,Pos.zH,hx] at hal<;>cases hal
  | reg ops is k=>cases is<;>exact trivial
  | _=>exact trivial
end
end Go.Fx
namespace Go.gW
open Go Go.RowKit Go.Num Go.Mem Go.Fx
theorem eG.keep {l:List TypeId} {w w':World} {v:Value} {q:Rat} (h:eG w v q) (k:Kept l w w') (hT:l.contains 133=false:=by kernel_rfl):eG w' v q:=by
 obtain ⟨pa,n,ca,pb,m,cb,h1,h2,h3⟩:=h;exact ⟨pa,n,ca,pb,m,cb,h1,Fx.bC.keep h2 k hT,Fx.bC.keep h3 k hT⟩
theorem PE {k:Nat} {p q:Rat} (h:qc k p) (i:qc k q):qc (2*k+1) (p - q):=by
 rw [Rat.sub_eq_add_neg];exact Ic h (Ia i)
def YS (w:World) (q:Rat) (e:Ending) (w':World):Prop:=∃ p l c b p' l' c',e= ah (au #[aj p l c,ay b,aj p' l' c'])∧Below w.heap.size w w'∧eG w' (au #[aj p l c,ay b,aj p' l' c']) q
theorem RQ {w:World} {q:Rat} {e:Ending} {w':World} (h:∃ v,e= ah v∧Below w.heap.size w w'∧eG w' v q):YS w q e w':=by
 obtain ⟨v,rfl,h,hv⟩:=h;obtain ⟨p,l,c,p',l',c',rfl, -⟩:=id hv;exact ⟨p,l,c,_,p',l',c',rfl,h,hv⟩
def Vh (u:Value) (w:World) (q:Rat) (e:Ending) (w':World):Prop:=∃ p l c b p' l' c',e= ah (aD #[au #[aj p l c,ay b,aj p' l' c'],u])∧Below w.heap.size w w'∧eG w' (au #[aj p l c,ay b,aj p' l' c']) q
theorem qj {u:Value} {w:World} {q:Rat} {e:Ending} {w':World} (h:∃ v,e= ah (aD #[v,u])∧Below w.heap.size w w'∧eG w' v q):Vh u w q e w':=by
 obtain ⟨v,rfl,h,hv⟩:=h;obtain ⟨p,l,c,p',l',c',rfl, -⟩:=id hv;exact ⟨p,l,c,_,p',l',c',rfl,h,hv⟩
end Go.gW
namespace Go.Proofs.aQ
open Go Go.RowKit Go.SW Go.Num Go.Mem Go.Proofs
def dH (x:(Int × Int) × Int):Value:=aD #[au #[Z I x.1.1,Z I x.1.2],Z I x.2]
def jc (lo hi:Int):Bool:=decide (-1000000000000000000≤lo)&&(decide (lo≤hi)&&decide (hi≤1000000000000000000))
theorem ku (lo hi:Int) (w:World):Calls Tryz.prog 58 #[Z I lo,Z I hi] w (fun e w'=>e= ah (ay (jc lo hi))∧Below w.heap.size w w'):=by
 unfold jc;cases h1:decide (-1000000000000000000≤lo)<;>cases h2:decide (lo≤hi)<;>cases h3:decide (hi≤1000000000000000000)
 all_goals
  go_enter Tryz.func58,Tryz.ntmps58
  go_wp2_with fail
  go_ret
  exact ⟨rfl,Below.refl _ _⟩
theorem oM (lo hi:Int) (w:World):Calls Tryz.prog 104 #[au #[Z I lo,Z I hi]] w (fun e w'=>e= ah (Z I (if jc lo hi then 0 else 30))∧Below w.heap.size w w'):=by
 have H:=zh (fun W=>ku lo hi W);generalize jc lo hi=b at *;cases b
 all_goals
  go_enter Tryz.func104,Tryz.ntmps104
  go_wp2_with fail
  refine (H.out _).mono ?_;rintro e w1 ⟨rfl,hb1⟩;have hw:=Bt (show Below w.heap.size w (w.alloc (.cells #[Z I lo,Z I hi] 35)) from aN) hb1;go_wp2_with fail
  go_ret
  exact ⟨rfl,hw⟩
theorem qI (lo hi:Int) (w:World):Calls Tryz.prog 153 #[Z I lo,Z I hi] w (fun e w'=>e= ah (if jc lo hi then aD #[au #[Z I lo,Z I hi],Z I 0] else aD #[au #[Z I 0,Z I 0],Z I 30])∧Below w.heap.size w w'):=by
 have H:=zh (fun W=>ku lo hi W);generalize jc lo hi=b at *;cases b
 all_goals
  go_enter Tryz.func153,Tryz.ntmps153
  go_wp2_with fail
  refine (H.out _).mono ?_;rintro e w1 ⟨rfl,hb1⟩;have hx:=aC.later (aC.new w #[Z I 0,Z I 0] 35) hb1;have cx:=hx.cell;have fx:=hx.free;have lx:=hx.lt;have hw:=Bt (show Below w.heap.size w (w.alloc (.cells #[Z I 0,Z I 0] 35)) from aN) hb1;go_wp2_with fail
  refine aY rfl rfl bf Tryz.underlying35 rfl zk ?_;exact ⟨rfl,aN⟩
end Go.Proofs.aQ
namespace Go.SW
open Go Go.RowKit
variable {P:Program} {ops:Array Oper} {Q:Exit→Act→World→Prop} {o:Oper} {i:Nat} {is:List (K × Nat)} {a:Act} {w:World} {N:Nat} {A:List Nat}
theorem wW (ho:ops[i]? =some o) (hw:Region.wanted o (yielded ops a.tmps)=true) (h:∀ J:Act→Prop,(∀ a,walk P ops Q N is A a w→J a)→∃ v,(∀ w',(execOp a.eval o).run P w'= .ok (.value v) w')∧J (a.put o.dst v)):walk P ops Q N ((.pure,i)::is) A a w:=by
 refine Jk ho fun J hJ=>?_;rw [if_pos hw];exact h J hJ
theorem wX {T:TypeId} {x:Operand} {p:Addr} (ho:ops[i]? =some o) (hw:Region.wanted o (yielded ops a.tmps)=true) (hop:o.op= .load T x) (hx:a.eval x= aA (some p))
  (h:∀ J:Value→Prop,(∀ v,walk P ops Q N is A (a.put o.dst v) w→J v)→(w.cell? p).isSome=true∧∃ v,(loadVar T p).run P w= .ok v w∧J v):walk P ops Q N ((.read,i)::is) A a w:=by
 unfold walk;simp only [ho,hw,if_true];obtain ⟨h1,v,h2,h3⟩:=h (fun v=>walk P ops Q N is A (a.put o.dst v) w) fun _ h=>h;refine ⟨v,fun w' hb=>?_,h3⟩;simp only [execOp,hop,hx,Instr.loadAt,Instr.sureAddr,Sem.run_bind,Sem.run_pure,Result.andThen_ok,rC hb h1 h2]
theorem Jl (ho:ops[i]? =some o) (hw:Region.wanted o (yielded ops a.tmps)=true) (h:∀ w',Below w.heap.size w w'→∀ J:Act→World→Prop,(∀ a' w'',Below w'.heap.size w' w''→walk P ops Q N is A a' w''→J a' w'')→o.wp P a w' J Q):walk P ops Q N ((.ext,i)::is) A a w:=by
 unfold walk;simp only [ho,hw,if_true];exact fun w' hb=>h w' hb _ fun a' w'' h1 h2=>⟨h1,h2⟩
def K.soft:K→Bool
 | .pure=>true
 | .read=>true
 | .ext=>true
 | _=>false
theorem qJ {k:K} (hk:k.soft=true) (ho:ops[i]? =some o) (hw:Region.wanted o (yielded ops a.tmps)=false) (h:∀ J:Act→Prop,(∀ a,walk P ops Q N is A a w→J a)→J (a.put o.dst undef)):walk P ops Q N ((k,i)::is) A a w:=by
 have h':=h (fun a=>walk P ops Q N is A a w) fun _ h=>h;cases k with
 | pure=>unfold walk;simp only [ho,hw];exact h'
 | read=>unfold walk;simp only [ho,hw];exact h'
 | ext=>unfold walk;simp only [ho,hw];exact h'
 | alloc _ _=>cases hk
 | fin=>cases hk
end Go.SW
namespace Go.gW
open Go Go.RowKit Go.Num Go.Mem
def qX (w:World) (_T:TypeId) (v:Value) (l:List (Int × Int)):Prop :=
 ∃ a cap,v= aj a l.length cap∧l.length≤cap∧cap≤9223372036854775807∧∀ k (_:k<l.length),∃ b off,a=some ⟨b,off,none⟩∧b<w.heap.size∧w.cell? ⟨b,off+k*2,none⟩=some (.int .i64 l[k].1)∧w.cell? ⟨b,off+k*2+1,none⟩=some (.int .i64 l[k].2)
theorem qX.later {w w':World} {T:TypeId} {v:Value} {l:List (Int × Int)} (h:qX w T v l) (hb:Below w.heap.size w w'):qX w' T v l:=by
 obtain ⟨a,cap,h1,h2,h3,h4⟩:=h;refine ⟨a,cap,h1,h2,h3,fun k hk=>?_⟩;obtain ⟨b,off,h5,h6,h7,h8⟩:=h4 k hk;exact ⟨b,off,h5,aL h6 hb.size,(hb.cell (p:=⟨b,off+k*2,none⟩) h6).trans h7,(hb.cell (p:=⟨b,off+k*2+1,none⟩) h6).trans h8⟩
theorem qX.read {w:World} {T:TypeId} {v:Value} {l:List (Int × Int)} (h:qX w T v l) :
  ∃ a cap,v= aj a l.length cap∧l.length≤cap∧cap≤9223372036854775807∧∀ k (_:k<l.length),∃ b off,a=some ⟨b,off,none⟩∧b<w.heap.size∧w.cell? ⟨b,off+k*2,none⟩=some (.int .i64 l[k].1)∧w.cell? ⟨b,off+k*2+1,none⟩=some (.int .i64 l[k].2):=h
theorem qX.qm {w:World} {T:TypeId} {b n c:Nat} {arr:Array Value} {l:List (Int × Int)} (h:aC w b arr T) (hn:l.length=n) (hc:n≤c) (hm:c≤9223372036854775807) (k:∀ i (h:i<l.length),arr[i*2]? =some (.int .i64 l[i].1)∧arr[i*2+1]? =some (.int .i64 l[i].2)):qX w T (aj (some ⟨b,0,none⟩) n c) l:=by
 subst hn;refine ⟨_,_,rfl,hc,hm,fun i hi=>⟨b,0,rfl,h.lt,?_,?_⟩⟩
 ·rw [h.cell,dw];exact (k i hi).1
 ·rw [h.cell,dw];exact (k i hi).2
def okB (l:List (Int × Int)):Bool:=l.all fun b=>Go.Proofs.aQ.jc b.1 b.2
theorem qX.one {w:World} {T:TypeId} {b:Nat} {lo hi:Int} (h:aC w b #[Z I lo,Z I hi] T):qX w T (aj (some ⟨b,0,none⟩) 1 1) [(lo,hi)] :=
 qX.qm h rfl (aI _) zo fun i hi=>by
  have:i<1:=hi;obtain rfl:i=0:=by omega
  exact ⟨rfl,rfl⟩
theorem qX.two {w:World} {T:TypeId} {b:Nat} {x1 x2 x3 x4:Int} (h:aC w b #[Z I x1,Z I x2,Z I x3,Z I x4] T):qX w T (aj (some ⟨b,0,none⟩) 2 2) [(x1,x2),(x3,x4)] :=
 qX.qm h rfl (aI _) zo fun i hi=>by
  have:i<2:=hi;obtain rfl|rfl:i=0∨i=1:=by omega
  ·exact ⟨rfl,rfl⟩
  ·exact ⟨rfl,rfl⟩
end Go.gW
namespace Go.Proofs.aQ
open Go Go.RowKit Go.SW Go.Num Go.Mem Go.Proofs Go.gW
def iH (lo hi:Int):(Int × Int) × Int:=if jc lo hi then ((lo,hi),0) else ((0,0),6)
theorem kK (lo hi:Int) (w:World):Calls Tryz.prog 59 #[Z I lo,Z I hi] w (fun e w'=>e= ah (dH (iH lo hi))∧Below w.heap.size w w'):=by
 have H:=zh (fun W=>ku lo hi W);unfold iH;generalize jc lo hi=b at *;unfold dH;cases b
 all_goals
  go_enter Tryz.func59,Tryz.ntmps59
  go_wp2_with fail
  refine (H.out _).mono ?_;rintro e w1 ⟨rfl,hb1⟩;have hx:=aC.later (aC.new w #[Z I 0,Z I 0] 35) hb1;have cx:=hx.cell;have fx:=hx.free;have lx:=hx.lt;have hw:=Bt (show Below w.heap.size w (w.alloc (.cells #[Z I 0,Z I 0] 35)) from aN) hb1;go_wp2_with fail
  refine aY rfl rfl bf Tryz.underlying35 rfl zk ?_;exact ⟨rfl,aN⟩
theorem Vk (b c:Nat) (zs:List Int) (z0:Int) (h0:zs[0]? =some z0) (arr:Array Value) (T:TypeId) (w:World) (hx:aC w b arr T) (hc:∀ j (h:j<zs.length),arr[j]? =some (.int .i64 zs[j])) (hl:zs.length≤9223372036854775807) :
  Calls Tryz.prog 222 #[aj (some ⟨b,0,none⟩) zs.length c] w (fun e w'=>e= ah (Z I (zs.foldl max z0))∧Below w.heap.size w w'):=by
 have hn:0<zs.length:=by
  rcases aS zs.length with h|h
  ·rw [List.getElem?_eq_none zo] at h0;cases h0
  ·exact h
 have hz0:zs[0]=z0:=by
  rw [List.getElem?_eq_getElem hn] at h0;exact Option.some.inj h0
 have h00:w.cell? ⟨b,0,none⟩=some (.int .i64 z0):=by
  rw [hx.cell,hc 0 hn,hz0]
 have lb:=hx.lt;have g1:decide ((zs.length:Int)<1)=false:=by simp;omega
 have HX:=zh hx;have HC:=zh hc;clear hx hc;go_enter Tryz.func222,Tryz.ntmps222
 go_wp2_with fail
 go_loopw [3,4] (fun m i wr=>∃ k:Nat,0<k∧k≤zs.length∧i= Z I (k:Int)∧m= Z I ((zs.take k).foldl max z0)∧Below w.heap.size w wr) (fun _ i _=>zs.length - (intOf i).toNat)
 case atStart =>
  refine ⟨1,by omega,hn,rfl,?_,Below.refl _ _⟩;cases zs with
  | nil=>simp at hn
  | cons x t =>
   simp only [List.getElem_cons_zero] at hz0;subst hz0;simp
 case round =>
  obtain ⟨k,hk0,hk,rfl,rfl,hb⟩:=hrel
  by_cases hlt:k<zs.length
  ·have hcell:=((HX.out.later hb).cell k).trans (HC.out k hlt)
   have hstep:(zs.take (k+1)).foldl max z0=max ((zs.take k).foldl max z0) zs[k]:=by
    rw [List.take_succ_eq_append_getElem hlt,List.foldl_append];rfl
   have HS:=zh hstep;clear hstep;generalize zs[k]=zk at *;generalize (zs.take k).foldl max z0=mk at *;go_wp2_with fail
   go_roundw
   case rel=>exact ⟨k+1,by omega,by omega,by go_num,by rw [HS.out]<;>go_num,hb⟩
   case measure=>exact zM
  ·obtain rfl:k=zs.length:=by omega
   rw [dR];go_wp2_with fail
   go_ret
   exact ⟨rfl,hb⟩
theorem nJ (b c:Nat) (zs:List Int) (z0:Int) (h0:zs[0]? =some z0) (arr:Array Value) (T:TypeId) (w:World) (hx:aC w b arr T) (hc:∀ j (h:j<zs.length),arr[j]? =some (.int .i64 zs[j])) (hl:zs.length≤9223372036854775807) :
  Calls Tryz.prog 169 #[aj (some ⟨b,0,none⟩) zs.length c] w (fun e w'=>e= ah (Z I (zs.foldl max z0))∧Below w.heap.size w w'):=by
 have H:=zh (Vk b c zs z0 h0 arr T w hx hc hl);clear h0 hx hc hl;generalize zs.length=n at *;generalize zs.foldl max z0=z at *;go_enter Tryz.func169,Tryz.ntmps169
 go_wp2_with fail
 refine H.out.mono ?_;rintro e w1 ⟨rfl,hb1⟩;go_wp2_with fail
 go_ret
 exact ⟨rfl,hb1⟩
theorem jk (F:FuncId) (free:Array Value) (z:(Int × Int) × Int) (T:TypeId) (v:Value) (l:List (Int × Int)) (w:World) (hv:qX w T v l)
  (h1:okB l=true→∀ W,Below w.heap.size w W→Calls Tryz.prog F free W (fun e w'=>e= ah (dH z)∧Below W.heap.size W w'))
  (hen:∀ args W,(callFunc F args).run Tryz.prog W= .ok (.enter F args) W) :
  Calls Tryz.prog 163 #[.func (.func F) #[] free,v] w (fun e w'=>e= ah (dH (if okB l then z else ((0,0),30)))∧Below w.heap.size w w'):=by
 obtain ⟨a,cap,rfl,hc1,hc2,hread⟩:=hv.read;have HR:=zh hread;have H1:=zh h1;clear h1 hv hread;obtain ⟨z',EZ⟩:∃ y,(if okB l then z else ((0,0),30))=y:=⟨_,rfl⟩;rw [EZ];have HZ:=zh EZ;clear EZ;obtain ⟨⟨z1,z2⟩,z3⟩:=z';unfold dH at *;simp only at *;go_enter Tryz.func163,Tryz.ntmps163
 go_wp2_with fail
 obtain ⟨wx,EW,hz,R⟩:=EP w #[Z I 0,Z I 0] 35;rw [EW];clear EW;have HB:=zh hz;clear hz;obtain ⟨bx,eb⟩:∃ y,w.heap.size=y:=⟨_,rfl⟩;rw [eb] at R ⊢;go_wp2_with fail
 go_loopw [11] (fun iv wr=>∃ k:Nat,iv= Z I (k:Int)∧k≤l.length∧Hid (∀ j (h:j<l.length),j<k→jc l[j].1 l[j].2=true)∧Below wx.heap.size wx wr) (fun iv _=>l.length - (intOf iv).toNat)
 case atStart=>exact ⟨0,rfl,by omega,zh (fun j _ h=>by omega),Below.refl _ _⟩
 case round =>
  obtain ⟨k,rfl,hk,HK,hb⟩:=hrel
  rcases aO k l.length with hlt|hge
  ·obtain ⟨b,off,rfl,hbl,hx1,hx2⟩:=HR.out k hlt;have hB:=Bt HB.out hb;have hc1:=(hB.cell (p:=⟨b,off+k*2,none⟩) hbl).trans hx1;have hc2:=(hB.cell (p:=⟨b,off+k*2+1,none⟩) hbl).trans hx2;clear hx1 hx2;have HV:=zh (fun W=>ku l[k].1 l[k].2 W);obtain ⟨bk,EK⟩:∃ y,jc l[k].1 l[k].2=y:=⟨_,rfl⟩;have HE:=zh EK;rw [EK] at HV;clear EK;generalize hlk:l[k]=lk at *;have HLK:=zh hlk;clear hlk;obtain ⟨y1,y2⟩:=lk;simp only at *;replace R:=R.bl hb;go_wp2_with fail
   obtain ⟨wy,EW,hz,Y⟩:=EP wr #[Z I y1,Z I y2] 35;rw [EW];clear EW;refine (HV.out _).mono ?_;rintro e w1 ⟨rfl,hb1⟩;have hw:=Bt hb (Bt hz hb1);replace R:=(R.bl hz).bl hb1;clear hc1 hc2 hz hb1 Y HV;cases bk
   ·have hx:=R.out;have cx:=hx.cell;have fx:=hx.free;have lx:=hx.lt;go_wp2_with fail
    refine aY rfl rfl bf Tryz.underlying35 rfl zk ?_
    have hno:okB l=false:=by
     unfold okB;rw [List.all_eq_false];refine ⟨l[k],eX _,?_⟩;rw [HLK.out,HE.out];simp
    have he:=HZ.out;rw [hno] at he;cases he
    have hB2:=Bt HB.out hw;exact ⟨rfl,aN⟩
   ·go_wp2_with fail
    go_roundw
    case rel =>
     refine ⟨k+1,by go_num,by omega,zh fun j hj hjk=>?_,hw⟩
     rcases aO j k with h|h
     ·exact HK.out j hj h
     ·obtain rfl:j=k:=by omega
      rw [HLK.out,HE.out]
    case measure=>exact zM
  ·obtain rfl:k=l.length:=by omega
   have hyes:okB l=true:=by
    unfold okB;rw [iP];intro x hx;obtain ⟨j,hj,rfl⟩:=List.getElem_of_mem hx;exact HK.out j hj hj
   have he:=HZ.out;rw [if_pos hyes] at he;subst he;have HH:=zh (H1.out hyes);simp only at HH;clear hyes H1;replace R:=R.bl hb;have hB:=Bt HB.out hb;go_wp2_with fail
   refine (HH.out _ hB).mono ?_;rintro e w1 ⟨rfl,hb1⟩;have hw:=Bt hB hb1;replace R:=R.bl hb1;have hx:=R.out;have cx:=hx.cell;have fx:=hx.free;have lx:=hx.lt;clear hb1;go_wp2_with fail
   refine aY rfl rfl bf Tryz.underlying35 rfl zk ?_;exact ⟨rfl,aN⟩
def nT (lo hi:Int):(Int × Int) × Int:=if jc lo hi then iH (max (max lo (-hi)) 0) (max (-lo) hi) else ((0,0),30)
theorem RO (lo hi:Int) (h0:jc lo hi=true) (b:Nat) (w:World) (h:aC w b #[Z I lo,Z I hi] 35):Calls Tryz.prog 191 #[aA (some ⟨b,0,none⟩)] w (fun e w'=>e= ah (dH (iH (max (max lo (-hi)) 0) (max (-lo) hi)))∧Below w.heap.size w w'):=by
 obtain ⟨hk1,hk2,hk3⟩: -1000000000000000000≤lo∧lo≤hi∧hi≤1000000000000000000:=by simpa [jc] using h0
 have H:=zh (fun W=>kK (max (max lo (-hi)) 0) (max (-lo) hi) W)
 have G1:Hid (∀ W c,aC W c #[Z I lo,Z I (-hi),Z I 0] 3→Calls Tryz.prog 169 #[aj (some ⟨c,0,none⟩) 3 3] W (fun e w'=>e= ah (Z I (max (max lo (-hi)) 0))∧Below W.heap.size W w')):=zh fun W c hc=>by
  have:=nJ c 3 [lo, -hi,0] lo rfl _ _ W hc (fun j hj=>by
   have:j<3:=hj;have hj:j=0∨j=1∨j=2:=by omega
   rcases hj with rfl|rfl|rfl<;>rfl) zi
  simpa using this
 have G2:Hid (∀ W c,aC W c #[Z I (-lo),Z I hi] 3→Calls Tryz.prog 169 #[aj (some ⟨c,0,none⟩) 2 2] W (fun e w'=>e= ah (Z I (max (-lo) hi))∧Below W.heap.size W w')):=zh fun W c hc=>by
  have:=nJ c 2 [-lo,hi] (-lo) rfl _ _ W hc (fun j hj=>by
   have:j<2:=hj;have hj:j=0∨j=1:=by omega
   rcases hj with rfl|rfl<;>rfl) zi
  simpa using this
 generalize iH (max (max lo (-hi)) 0) (max (-lo) hi)=z at *;generalize max (max lo (-hi)) 0=m1 at *;generalize max (-lo) hi=m2 at *;obtain ⟨⟨z1,z2⟩,z3⟩:=z;unfold dH at *;simp only at *;go_enter Tryz.func191,Tryz.ntmps191
 go_wp2_with fail
 obtain ⟨wx,EW,hz,R⟩:=EP w #[Z I 0,Z I 0] 35;rw [EW];clear EW;have hcell:∀ W,Below w.heap.size w W→∀ o v,(#[Value.int .i64 lo,Z I hi]:Array Value)[o]? =some v→W.cell? ⟨b,o,none⟩=some v:=fun W hW o v hv=>((h.later hW).cell o).trans hv;have B:=h.later hz;have HB:=zh hz;clear hz h;obtain ⟨bx,eb⟩:∃ y,w.heap.size=y:=⟨_,rfl⟩;rw [eb] at R ⊢;have cB:=B.cell;have lB:=B.lt;have R:=R.out;have n1: -9223372036854775808≤ -hi:=by omega
 have W:Hid (∀ a:Int, -1000000000000000000≤a→a≤1000000000000000000→I.wrap (-a)= -a):=zh fun a h1 h2=>by rw [IntKind.wrap_i64];omega
 have w1:=W.out hi zo hk3;have w2:=W.out lo hk1 zo;have hB0:=HB.out
 go_region_held (fun w'=>w'.cell? ⟨b,0,none⟩=some (.int .i64 lo)∧w'.cell? ⟨b,1,none⟩=some (.int .i64 hi)∧Below w.heap.size w w')
  ((refine ⟨hcell _ ?_ 0 _ rfl,hcell _ ?_ 1 _ rfl,?_⟩<;>exact aN))
  (first
  | (go_at_call 169;first|(with_reducible refine (G1.out _ _ ?_).mono ?_;exact bf;rintro e wa ⟨rfl,hba⟩;have Ra:aC wa bx #[Z I 0,Z I 0] 35:=bf)|(with_reducible refine (G2.out _ _ ?_).mono ?_;exact bf;rintro e wb ⟨rfl,hbb⟩;have Rb:aC wb bx #[Z I 0,Z I 0] 35:=bf))
  | (go_at_call 59;refine (H.out _).mono ?_;rintro e wc ⟨rfl,hbc⟩;have hx:aC wc bx #[Z I 0,Z I 0] 35:=bf;have cx:=hx.cell;have fx:=hx.free;have lx:=hx.lt))
 all_goals
  go_wp2_with fail
  refine aY rfl rfl bf Tryz.underlying35 rfl zk ?_;exact ⟨rfl,aN⟩
theorem G9 (lo hi:Int) (w:World):Calls Tryz.prog 150 #[au #[Z I lo,Z I hi]] w (fun e w'=>e= ah (dH (nT lo hi))∧Below w.heap.size w w'):=by
 have H:Hid (∀ W b c,aC W b #[Z I lo,Z I hi] 35→aC W c #[Z I lo,Z I hi] 35→Calls Tryz.prog 163 #[.func (.func 191) #[] #[aA (some ⟨b,0,none⟩)],aj (some ⟨c,0,none⟩) 1 1] W (fun e w'=>e= ah (dH (nT lo hi))∧Below W.heap.size W w')):=zh fun W b c h1 h2=>by
  have:=jk 191 #[aA (some ⟨b,0,none⟩)] _ _ _ _ W (qX.one h2) (fun h W' hW'=>RO lo hi (by simpa [okB] using h) b W' (h1.later hW')) (fun args W=>by rfl);have e:okB [(lo,hi)]=jc lo hi:=by simp [okB]
  rw [e] at this;exact this
 generalize nT lo hi=z at *;obtain ⟨⟨z1,z2⟩,z3⟩:=z;unfold dH at *;simp only at *;go_enter Tryz.func150,Tryz.ntmps150
 go_wp2_with fail
 obtain ⟨wx,EW,hz,X,R,bZ⟩:=Pf w #[Z I lo,Z I hi] 35 #[Z I 0,Z I 0] 35 #[Z I lo,Z I hi] 35;rw [EW];clear EW;have HB:=zh hz;clear hz;refine (H.out _ _ _ X.out bZ.out).mono ?_;rintro e w1 ⟨rfl,hb1⟩;replace R:=R.bl hb1;replace HB:=zh (Bt HB.out hb1);clear hb1 H;have hx:=R.out;have cx:=hx.cell;have fx:=hx.free;have lx:=hx.lt;have hw:=HB.out;go_wp2_with fail
 refine aY rfl rfl bf Tryz.underlying35 rfl zk ?_;exact ⟨rfl,aN⟩
def Ij (n:Int) (d:Nat) (up:Bool):Int:=if up then -(-n / (d:Int)) else n / (d:Int)
def pV (p d:Nat) (b:Bool):Nat:=if 0<p%d∧b=true then p / d+1 else p / d
theorem II (p d:Nat) (hd:0<d): -(p:Int) / (d:Int)= -((pV p d true:Nat):Int):=by
 have h:=bP p d;have hr:=dV p hd;unfold pV;generalize p / d=q at *;generalize p%d=r at *
 have e: -(p:Int)= -(r:Int)+(d:Int)* -(q:Int):=by
  rw [← h,Int.natCast_add,Int.natCast_mul,Int.mul_neg];omega
 rw [e,Int.add_mul_ediv_left _ _ zo]
 by_cases h0:0<r
 ·rw [if_pos ⟨h0,rfl⟩]
  have: -(r:Int) / (d:Int)= -1:=by
   refine Int.le_antisymm ?_ ?_
   ·have:=(Int.ediv_lt_iff_lt_mul (a:= -(r:Int)) (b:=0) (c:=(d:Int)) zo).2 zo;omega
   ·rw [Int.le_ediv_iff_mul_le zo];omega
  rw [this];omega
 ·obtain rfl:r=0:=by omega
  rw [if_neg zo];simp
theorem Tn (x y:Int) {d:Nat} (hd:0<d) (up:Bool):Ij (x*y) d up=iM (pV (x.natAbs*y.natAbs) d (up != (decide (x<0) != decide (y<0)))) (decide (x<0) != decide (y<0)):=by
 rw [← xE x y];generalize x.natAbs*y.natAbs=p;generalize (decide (x<0) != decide (y<0))=neg
 have hf:((p:Int)) / (d:Int)=((pV p d false:Nat):Int):=by
  unfold pV;rw [if_neg zi];omega
 have hn:=II p d hd;unfold Ij iM;cases neg<;>cases up<;>simp [hf,hn]
def vW (x y:Int) (d:Nat) (up:Bool):Int × Bool:=if (Ij (x*y) d up).natAbs≤1000000000000000000 then (Ij (x*y) d up,true) else (0,false)
theorem CO (x y:Int) {d:Nat} (hd:0<d) (up:Bool):vW x y d up=if pV (x.natAbs*y.natAbs) d (up != (decide (x<0) != decide (y<0)))≤1000000000000000000 then (iM (pV (x.natAbs*y.natAbs) d (up != (decide (x<0) != decide (y<0)))) (decide (x<0) != decide (y<0)),true) else (0,false):=by
 unfold vW;rw [Tn x y hd,iJ]
def iN (N:Int) (d:Nat):Int:=(2*N+d) / (2*(d:Int))
theorem Df (N:Int) {d:Nat} (hd:0<d):iN N d*(2*(d:Int))≤2*N+d∧2*N+d<(iN N d+1)*(2*(d:Int)):=by
 unfold iN;refine ⟨Int.ediv_mul_le _ zo,?_⟩;have:=Int.lt_ediv_add_one_mul_self (2*N+(d:Int)) (b:=2*(d:Int)) zo;exact this
theorem xL {N n:Int} {d:Nat} (hd:0<d) (h1:n*(d:Int)≤N) (h2:N<(n+1)*(d:Int)):Ij N d false=n:=by
 unfold Ij;rw [if_neg zi];refine Int.le_antisymm ?_ ((Int.le_ediv_iff_mul_le zo).2 h1);have:=(Int.ediv_lt_iff_lt_mul (c:=(d:Int)) zo).2 h2;omega
theorem FH {N n:Int} {d:Nat} (hd:0<d) (h1:(n - 1)*(d:Int)<N) (h2:N≤n*(d:Int)):Ij N d true=n:=by
 unfold Ij;rw [if_pos rfl]
 have: -N / (d:Int)= -n:=by
  refine Int.le_antisymm ?_ ((Int.le_ediv_iff_mul_le zo).2 (by rw [Int.neg_mul];omega))
  have:=(Int.ediv_lt_iff_lt_mul (a:= -N) (b:= -n+1) (c:=(d:Int)) zo).2 (by
   have e:(-n+1)*(d:Int)= -((n - 1)*(d:Int)):=by rw [← Int.neg_mul];congr 1;omega
   rw [e];omega)
  omega
 omega
def arE (N:Int) (d:Nat):(Int × Int) × Int :=
 if -9223372036854775808≤iN N d∧iN N d<9223372036854775808 then
  (if jc (iN N d) (iN N d) then iH (iN N d+(if N<iN N d*d then -1 else 0)) (iN N d+(if iN N d*d<N then 1 else 0)) else ((0,0),6))
 else ((0,0),6)
theorem U0 (N:Int) {d:Nat} (hd:0<d):arE N d=iH (Ij N d false) (Ij N d true):=by
 obtain ⟨h1,h2⟩:=Df N hd;have m1:iN N d*(2*(d:Int))=2*(iN N d*(d:Int)):=by rw [← Int.mul_assoc,Int.mul_comm (iN N d) 2,Int.mul_assoc]
 have m2:(iN N d+1)*(2*(d:Int))=2*(iN N d*(d:Int))+2*(d:Int):=by rw [Int.add_mul,m1,Int.one_mul]
 rw [m1] at h1;rw [m2] at h2;unfold arE;generalize iN N d=n at *;have e1:(n+1)*(d:Int)=n*(d:Int)+d:=by rw [Int.add_mul,Int.one_mul]
 have e2:(n - 1)*(d:Int)=n*(d:Int) - d:=by rw [Int.sub_mul,Int.one_mul]
 have e3:(n - 1+1)*(d:Int)=n*(d:Int):=by congr 1;omega
 have e4:(n+1 - 1)*(d:Int)=n*(d:Int):=by congr 1;omega
 have key:∃ lo hi,Ij N d false=lo∧Ij N d true=hi∧lo=n+(if N<n*(d:Int) then -1 else 0)∧hi=n+(if n*(d:Int)<N then 1 else 0):=by
  rcases Int.lt_trichotomy N (n*(d:Int)) with c|c|c
  ·refine ⟨n - 1,n,xL hd zo zo,FH hd zo zo,by rw [if_pos c];omega,by rw [if_neg zo];omega⟩
  ·refine ⟨n,n,xL hd zo zo,FH hd zo zo,by rw [if_neg zo];omega,by rw [if_neg zo];omega⟩
  ·refine ⟨n,n+1,xL hd zo zo,FH hd zo zo,by rw [if_neg zo];omega,by rw [if_pos c]⟩
 obtain ⟨lo,hi,k1,k2,k3,k4⟩:=key;rw [k1,k2,← k3,← k4];have hlo:lo=n∨lo=n - 1:=by rw [k3];split<;>omega
 have hhi:hi=n∨hi=n+1:=by rw [k4];split<;>omega
 have hor:lo=n∨hi=n:=by
  rw [k3,k4]
  by_cases c:N<n*(d:Int)
  ·right;rw [if_neg zo];omega
  ·left;rw [if_neg c];omega
 by_cases c1: -9223372036854775808≤n∧n<9223372036854775808
 ·rw [if_pos c1];cases hb:jc n n
  ·rw [if_neg zi];unfold iH;rw [if_neg];intro h;unfold jc at hb h;simp only [aF,decide_eq_true_eq,Bool.and_eq_false_iff,decide_eq_false_iff_not] at hb h;omega
  ·rw [if_pos rfl]
 ·rw [if_neg c1];unfold iH;rw [if_neg];intro h;unfold jc at h;simp only [aF,decide_eq_true_eq] at h;omega
end Go.Proofs.aQ
namespace Go.gW
open Go Go.Num
theorem xU (q:Rat) (E:Nat):q*((E:Nat):Rat)*((q.den:Nat):Rat)=((q.num*(E:Int):Int):Rat):=by
 have h:q*((q.den:Nat):Rat)=((q.num:Int):Rat):=by
  have h1:((q.num:Int):Rat) / ((q.den:Nat):Rat)=q:=by
   have:=Rat.mkRat_eq_div q.num q.den;rw [← this,Rat.mkRat_self]
  have h2:((q.den:Nat):Rat)≠0:=by have:=q.den_nz;exact_mod_cast this
  generalize ((q.den:Nat):Rat)=d at *;generalize ((q.num:Int):Rat)=m at *
  grind
 rw [Rat.intCast_mul,← h,Rat.intCast_natCast]
 grind
theorem MZ (q:Rat) (n:Int) {E:Nat} (hE:0<E):q<(n:Rat) / ((E:Nat):Rat)↔q.num*(E:Int)<n*(q.den:Int):=by
 have hEq:(0:Rat)<((E:Nat):Rat):=by exact_mod_cast hE
 have hd:(0:Rat)<((q.den:Nat):Rat):=by exact_mod_cast q.den_pos
 rw [Rat.lt_div_iff hEq,← Rat.mul_lt_mul_right hd,xU,← Rat.intCast_natCast,← Rat.intCast_mul,Rat.intCast_lt_intCast]
theorem LG (q:Rat) (n:Int) {E:Nat} (hE:0<E):(n:Rat) / ((E:Nat):Rat)<q↔n*(q.den:Int)<q.num*(E:Int):=by
 have hEq:(0:Rat)<((E:Nat):Rat):=by exact_mod_cast hE
 have hd:(0:Rat)<((q.den:Nat):Rat):=by exact_mod_cast q.den_pos
 rw [Rat.div_lt_iff hEq,← Rat.mul_lt_mul_right hd,xU,← Rat.intCast_natCast,← Rat.intCast_mul,Rat.intCast_lt_intCast]
theorem J7 (q:Rat) (n:Int) {E:Nat} (hE:0<E):oo q ((n:Rat) / ((E:Nat):Rat))=if q.num*(E:Int)<n*(q.den:Int) then -1 else if n*(q.den:Int)<q.num*(E:Int) then 1 else 0:=by
 unfold oo;simp only [MZ q n hE,LG q n hE]
end Go.gW
namespace Go.SW
open Go Go.RowKit
structure Wk (P:Program) (ops:Array Oper) (Q:Exit→Act→World→Prop) (N:Nat) (is:List (K × Nat)) (A:List Nat) (a:Act) (w:World):Prop where
 out:walk P ops Q N is A a w
variable {P:Program} {ops:Array Oper} {Q:Exit→Act→World→Prop} {o:Oper} {i:Nat} {is:List (K × Nat)} {a:Act} {w:World} {N:Nat} {A:List Nat}
theorem Hf {k:K} (hk:k.soft=true) (ho:ops[i]? =some o) (hw:Region.wanted o (yielded ops a.tmps)=false) (h:∀ J:Act→Prop,(∀ a,Wk P ops Q N is A a w→J a)→J (a.put o.dst undef)):Wk P ops Q N ((k,i)::is) A a w :=
 ⟨qJ hk ho hw fun J hJ=>h J fun a ha=>hJ a ha.out⟩
theorem AJ (ho:ops[i]? =some o) (hw:Region.wanted o (yielded ops a.tmps)=true) (h:∀ J:Act→Prop,(∀ a,Wk P ops Q N is A a w→J a)→∃ v,(∀ w',(execOp a.eval o).run P w'= .ok (.value v) w')∧J (a.put o.dst v)):Wk P ops Q N ((.pure,i)::is) A a w :=
 ⟨wW ho hw fun J hJ=>h J fun a ha=>hJ a ha.out⟩
theorem Ho {T:TypeId} {x:Operand} {p:Addr} (ho:ops[i]? =some o) (hw:Region.wanted o (yielded ops a.tmps)=true) (hop:o.op= .load T x) (hx:a.eval x= aA (some p))
  (h:∀ J:Value→Prop,(∀ v,Wk P ops Q N is A (a.put o.dst v) w→J v)→(w.cell? p).isSome=true∧∃ v,(loadVar T p).run P w= .ok v w∧J v):Wk P ops Q N ((.read,i)::is) A a w :=
 ⟨wX ho hw hop hx fun J hJ=>h J fun v hv=>hJ v hv.out⟩
theorem gD (ho:ops[i]? =some o) (hw:Region.wanted o (yielded ops a.tmps)=true) (h:∀ w',Below w.heap.size w w'→∀ J:Act→World→Prop,(∀ a' w'',Below w'.heap.size w' w''→Wk P ops Q N is A a' w''→J a' w'')→o.wp P a w' J Q):Wk P ops Q N ((.ext,i)::is) A a w :=
 ⟨Jl ho hw fun w' hb J hJ=>h w' hb J fun a' w'' hb' hk=>hJ a' w'' hb' hk.out⟩
theorem oO (l:List Oper) (hl:(i::is.map (·.2)).map (ops[·]?)=l.map some) (h:∀ w',Below w.heap.size w w'→wpList P ops Q l a w'):Wk P ops Q N ((.fin,i)::is) A a w:=⟨dG l hl h⟩
theorem Lx {t:TypeId} {x:Operand} {p:Option Addr} {n c:Nat} (ho:ops[i]? =some o) (hw:Region.wanted o (yielded ops a.tmps)=true) (hop:o.op= .call { callee:=.builtin .len,args:=#[x],argTypes:=#[t] }) (hx:a.eval x= aj p n c) (ht:P.underlying t=some (.slice (P.elem t)))
  (h:∀ J:Act→Prop,(∀ a,Wk P ops Q N is A a w→J a)→J (a.put o.dst (Z I n))):Wk P ops Q N ((.pure,i)::is) A a w :=
 AJ ho hw fun J hJ=>⟨Z I n,fun w'=>by simp [execOp,hop,hx,resolve,invoke,builtin,Sem.run_bind,run_len_slice w' _ _ _ _ _ ht,goInt],h J hJ⟩
end Go.SW
namespace Go.Proofs.power
open Go Go.RowKit Go.SW Go.Num Go.Mem Go.Proofs Go.Proofs.aQ
def Yu (p q:Int):Bool:=decide (1≤p)&&(decide (p≤36)&&(decide (1≤q)&&decide (q≤12)))
theorem ku (p q:Int) (w:World):Calls Tryz.prog 175 #[au #[Z I p,Z I q]] w (fun e w'=>e= ah (ay (Yu p q))∧Below w.heap.size w w'):=by
 unfold Yu;cases h1:decide (1≤p)<;>cases h2:decide (p≤36)<;>cases h3:decide (1≤q)<;>cases h4:decide (q≤12)
 all_goals
  go_enter Tryz.func175,Tryz.ntmps175
  go_wp2_with fail
  go_ret
  exact ⟨rfl,aN⟩
def JN (a b:Int × Int):Value:=if a.2≠0 then aD #[au #[Z I 0,Z I 0],Z I a.2] else if b.2≠0 then aD #[au #[Z I 0,Z I 0],Z I b.2] else
 if jc a.1 b.1 then aD #[au #[Z I a.1,Z I b.1],Z I 0] else aD #[au #[Z I 0,Z I 0],Z I 6]
theorem FX (lo hi:Int) (f:Value) (F:FuncId) (caps free:Array Value) (a b:Int × Int) (w:World) (hf:f= .func (.func F) caps free)
  (h1:∀ W,Below w.heap.size w W→Calls Tryz.prog F (caps++#[Z I lo,ay false]) W (fun e w'=>e= ah (aD #[Z I a.1,Z I a.2])∧Below W.heap.size W w'))
  (h2:∀ W,Below w.heap.size w W→Calls Tryz.prog F (caps++#[Z I hi,ay true]) W (fun e w'=>e= ah (aD #[Z I b.1,Z I b.2])∧Below W.heap.size W w')) (hfr:free=#[])
  (hen:∀ args W,(callFunc F args).run Tryz.prog W= .ok (.enter F args) W) :
  Calls Tryz.prog 176 #[Z I lo,Z I hi,f] w (fun e w'=>e= ah (JN a b)∧Below w.heap.size w w'):=by
 subst hf hfr;obtain ⟨a1,a2⟩:=a;obtain ⟨b1,b2⟩:=b;have H1:=zh h1;have H2:=zh h2;have HO:=zh (fun W=>qI a1 b1 W);unfold JN;simp only;clear h1 h2;go_enter Tryz.func176,Tryz.ntmps176
 go_wp2_with fail
 refine (H1.out _ aN).mono ?_;rintro e w1 ⟨rfl,hb1⟩;have hx:=aC.later (aC.new w #[Z I 0,Z I 0] 35) hb1;have HX:=zh hx;have HB1:=zh (Bt (show Below w.heap.size w (w.alloc (.cells #[Z I 0,Z I 0] 35)) from aN) hb1);clear hx hb1
 by_cases ha:a2=0
 ·subst ha;go_wp2_with fail
  refine (H2.out _ HB1.out).mono ?_;rintro e w2 ⟨rfl,hb2⟩;replace HX:=zh (HX.out.later hb2);have HB2:=zh (Bt HB1.out hb2);clear hb2 HB1
  by_cases hb:b2=0
  ·subst hb;go_wp2_with fail
   refine (HO.out _).mono ?_;rintro e w3 ⟨rfl,hb3⟩;replace HX:=zh (HX.out.later hb3);have HB3:=zh (Bt HB2.out hb3);clear hb3 HB2;have hx:=HX.out;have cx:=hx.cell;have fx:=hx.free;have lx:=hx.lt;have hw:=HB3.out;cases hk:jc a1 b1
   all_goals
    go_wp2_with fail
    refine aY rfl rfl bf Tryz.underlying35 rfl zk ?_;exact ⟨by first|rfl|(rw [if_neg (fun h=>h rfl),if_neg (fun h=>h rfl),hk];rfl),aN⟩
  ·have g:(b2 == 0)=false:=beq_eq_false_iff_ne.2 hb;have hx:=HX.out;have cx:=hx.cell;have fx:=hx.free;have lx:=hx.lt;have hw:=HB2.out;go_wp2_with fail
   refine aY rfl rfl bf Tryz.underlying35 rfl zk ?_;exact ⟨by first|rfl|(rw [if_neg (fun h=>h rfl),if_pos hb];rfl),aN⟩
 ·have g:(a2 == 0)=false:=beq_eq_false_iff_ne.2 ha;have hx:=HX.out;have cx:=hx.cell;have fx:=hx.free;have lx:=hx.lt;have hw:=HB1.out;go_wp2_with fail
  refine aY rfl rfl bf Tryz.underlying35 rfl zk ?_;exact ⟨by first|rfl|(rw [if_pos ha];rfl),aN⟩
end Go.Proofs.power
