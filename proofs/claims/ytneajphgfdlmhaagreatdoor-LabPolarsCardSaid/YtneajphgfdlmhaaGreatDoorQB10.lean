/- Lemmas for the proof. No condition. -/
import Derived.Test.YtneajphgfdlmhaaGreatDoorQB09
import Derived.RangeFuncLeaves
import Derived.RangeFuncFrom
import Derived.RangeFuncNested
import Derived.RangeFuncBound
import Derived.RangeFuncCalls
import Derived.Shelf.Abstract
import Derived.OwnWalkIn
import Derived.TacticsInMore
import Derived.LoopNIn
import Derived.LoopIn
import Derived.ChangeKeysEq
import Derived.ChangeSame
import Derived.ChangeVars
set_option linter.unusedVariables false
set_option linter.unusedSimpArgs false
set_option maxRecDepth 100000
set_option maxHeartbeats 16000000
open Bool renaming and_eq_true → aK
open Go.Ending renaming returned → aj
open Go.IntKind renaming i64 → I
open Go.Value renaming agg → au, bool → ak, int → Z, pointer → aB, slice → ah, string → O, tuple → aG
open List renaming cons_append → dh, getElem_mem → dY, length_cons → bg
open Nat renaming le_refl → aD, le_trans → ay, lt_of_lt_of_le → aI, mod_eq_of_lt → gq
namespace Go.Fx
open Go Go.RowKit Go.SW Go.Mem Go.Proofs
section
variable {P:Program} {n:Nat} {fn:Func} {T:Int→Ending} {w0:World} {V:Value} {k:Int} {p:Pos} {S:Sl} {L:Mm}
theorem wM {R:Post} {c:List PanicEntry} {w:World} (h:R (.panic c) S w):∀ ks:List Kt,Cont P n R ks (.panic c) S w
 | []=>h
 | x::ks=>by cases x<;>exact wM h ks
theorem dB (hT:∀ k,∃ c,T k= .panicked c) (hs:List Nat) (d:Nat) (St:Sl) (U:List (Nat × Array Value)) {f:FuncId} {args:Array Value} {v:Value} {k1:Int} {A:Prop} (hC:∀ w,Mem w0 [] (upd L U) w→Calls P f args w (Vl T w v k1)) (hn:(k1=0∧A)∨(k1≠0∧k=k1))
  (hc:k1=0→A→G P n (Ends P n fn (Vl T w0 V k)) w0 [] (tr 4000 hs p).2.past ((d,v)::(St++S)) (upd L U))
  (h:F6 P n w0 (tr 4000 hs p).1 S L St (upd L U):=by intro _;kernel_rfl) (hx:∀ w,qH P n w (wW P n w0 (tr 4000 hs p).1 S L) (tr 4000 hs p).2=some (d,f,args,w):=by intro _;kernel_rfl):G P n (Ends P n fn (Vl T w0 V k)) w0 [] p S L:=by
 refine Xw hs St _ h ?_;have hsub:=h.sub;have hh:=qY (hx w0);generalize wW P n w0 (tr 4000 hs p).1 S L=F at hx hsub ⊢;generalize (tr 4000 hs p).2=q at hc hx hh;generalize upd L U=L at hC hc;generalize St++S=S at hc hsub;obtain ⟨ops,o,hn',hf,hw,hd,hlt, -⟩:=kQ (h:=hx w0);refine place hn' hf hw (Y:=fun N H w a a' w1=>a'=a.put (some d) v∧Below w.heap.size w w1∧k1=0∧A) (fun w N H hM hok a ha K hK ks=>?_) fun w N H hM hok a a' w' ha hy=>?_
 ·obtain ⟨ops',o',hn2, -, -, -, -, hr⟩:=kQ (h:=hx w);rw [hn'] at hn2;cases hn2
  unfold Oper.wp;rw [ha.exec hf,hr];simp only [Oper.upon];refine (hC w hM).mono fun e w' he=>?_;obtain ⟨hb,⟨h1,rfl⟩|⟨h1,rfl⟩⟩:=he
  ·rw [hd]
   rcases hn with ⟨-, hA⟩|⟨h2, -⟩
   ·exact hK _ _ ⟨rfl,hb,h1,hA⟩
   ·exact absurd h1 h2
  ·obtain ⟨c,hc'⟩:=hT k1
   rcases hn with ⟨h2, -⟩|⟨h2,h3⟩
   ·exact absurd h2 h1
   ·rw [hc'];refine ⟨ha.defers,F,wM ?_ ks⟩
    show Vl T w0 V k (.panicked c) w'
    exact ⟨Bt hM.below hb,.inr ⟨by rw [h3];exact h1,by rw [h3,hc']⟩⟩
 ·obtain ⟨rfl,h1,h2,h3⟩:=hy;exact ⟨fun _ _ _ _ _ _=>.of h1,_,ha.put hlt v,((hc h2 h3).of (nR hsub d v) hh).out w' N H (hM.later h1) (Gw hok (fun _=>rfl) rfl)⟩
def Ox (P:Program) (w:World) (S:Sl) (p:Pos):Option (Value × World):=match p with
 | .reg ops (i:: _) _=>(match ops[i]? with
  | some o=>(match fit ops S o,Region.wanted o (yl ops S) with
   | true,true=>(match (execOp (ev S) o).run P w with
    | .halt (.panic v) w'=>some (v,w')
    | _=>none)
   | _,_=>none)
  | none=>none)
 | _=>none
theorem panics (m:Nat) (hs:List Nat) (U:List (Nat × Array Value)) {E:Ending→World→Prop} {v:Value} (hE:∀ w,Mem w0 [] (upd L U) w→E (.panicked [{ v,recovered:=false }]) w)
  (h:Ik P n w0 (tr m hs p).1 S L (upd L U):=by intro _;kernel_rfl) (hx:∀ w,Ox P w (wW P n w0 (tr m hs p).1 S L) (tr m hs p).2=some (v,w):=by intro _;kernel_rfl):G P n (Ends P n fn E) w0 [] p S L:=by
 refine YT hs _ h ?_;generalize wW P n w0 (tr m hs p).1 S L=S at hx ⊢;generalize (tr m hs p).2=q at hx;generalize upd L U=L at hE;refine ⟨fun w N H hM hok=>?_⟩;have h1:=hx w;unfold Ox at h1;split at h1
 ·rename_i ops i is ks;split at h1
  ·rename_i o ho;split at h1
   ·rename_i hf hw;split at h1
    ·rename_i v' w' hr;cases h1
     intro a ha;unfold wpOps;simp only [ho,ha.wanted (og hf)];rw [if_pos hw];refine .inl ?_;unfold Oper.wp;rw [ha.exec hf,hr];exact ⟨ha.defers,S,wM (hE w hM) ks⟩
    ·cases h1
   ·cases h1
  ·cases h1
 ·cases h1
end
end Go.Fx
namespace Go.gD
open Go Go.RowKit Go.Num Go.Mem Go.Fx
theorem gJ.keep {l:List TypeId} {w w':World} {v:Value} {q:Rat} (h:gJ w v q) (k:Kept l w w') (hT:l.contains 61=false:=by kernel_rfl):gJ w' v q:=by
 obtain ⟨pa,n,ca,pb,m,cb,h1,h2,h3⟩:=h;exact ⟨pa,n,ca,pb,m,cb,h1,Fx.bW.keep h2 k hT,Fx.bW.keep h3 k hT⟩
theorem Wq {k:Nat} {p q:Rat} (h:jw k p) (i:jw k q):jw (2*k+1) (p - q):=by
 rw [Rat.sub_eq_add_neg];exact AX h (uN i)
def as8 (w:World) (q:Rat) (e:Ending) (w':World):Prop:=∃ p l c b p' l' c',e= aj (au #[ah p l c,ak b,ah p' l' c'])∧Below w.heap.size w w'∧gJ w' (au #[ah p l c,ak b,ah p' l' c']) q
theorem YH {w:World} {q:Rat} {e:Ending} {w':World} (h:∃ v,e= aj v∧Below w.heap.size w w'∧gJ w' v q):as8 w q e w':=by
 obtain ⟨v,rfl,h,hv⟩:=h;obtain ⟨p,l,c,p',l',c',rfl, -⟩:=id hv;exact ⟨p,l,c,_,p',l',c',rfl,h,hv⟩
def ag6 (u:Value) (w:World) (q:Rat) (e:Ending) (w':World):Prop:=∃ p l c b p' l' c',e= aj (aG #[au #[ah p l c,ak b,ah p' l' c'],u])∧Below w.heap.size w w'∧gJ w' (au #[ah p l c,ak b,ah p' l' c']) q
theorem tQ {u:Value} {w:World} {q:Rat} {e:Ending} {w':World} (h:∃ v,e= aj (aG #[v,u])∧Below w.heap.size w w'∧gJ w' v q):ag6 u w q e w':=by
 obtain ⟨v,rfl,h,hv⟩:=h;obtain ⟨p,l,c,p',l',c',rfl, -⟩:=id hv;exact ⟨p,l,c,_,p',l',c',rfl,h,hv⟩
end Go.gD
namespace Go.Proofs.power
open Go Go.RowKit Go.Shelf Go.SW Go.Num Go.Mem Go.Proofs Go.Dec Go.gD Go.Proofs.dH
attribute [local go_sem] Oper.semAt_some
theorem XZ {lo hi:Int} (h:iG lo hi=true):Vk lo hi=((((vG (lo,hi):Nat):Int),((vN (lo,hi):Nat):Int)),0):=by
 obtain ⟨hk1,hk2,hk3⟩: -1000000000000000000≤lo∧lo≤hi∧hi≤1000000000000000000:=by simpa [iG] using h
 unfold Vk;rw [if_pos h]
 have e1:((vG (lo,hi):Nat):Int)=max (max lo (-hi)) 0:=by
  unfold vG;simp only;omega
 have e2:((vN (lo,hi):Nat):Int)=max (-lo) hi:=by
  unfold vN;simp only;omega
 rw [e1,e2];unfold gT;rw [if_pos];unfold iG;simp only [aK,decide_eq_true_eq];omega
theorem MR {b:Int × Int} (h:iG b.1 b.2=true):vG b≤vN b∧vN b≤10^18:=by
 obtain ⟨hk1,hk2,hk3⟩: -1000000000000000000≤b.1∧b.1≤b.2∧b.2≤1000000000000000000:=by simpa [iG] using h
 have h18:(10:Nat)^18=1000000000000000000:=by decide
 rw [h18];unfold vG vN;omega
theorem below_grown {W W':World} (h:Below W.heap.size W W'):W.grownBy W' none:=⟨h.os,h.tape,h.output,h.size,fun i hi _=>h.block i hi⟩
def XF (bs:List (Int × Int)) (k:Fin bs.length):Array Value:=#[au #[Z I ((vG bs[k.1]:Nat):Int),Z I ((vN bs[k.1]:Nat):Int)]]
def upto {n:Nat} (k:Nat) (h:k≤n):List (Fin n):=List.ofFn (n:=k) fun i=>⟨i.1,aI i.2 h⟩
theorem qN {n k:Nat} (h:k+1≤n):upto (k+1) h=upto k zo++[⟨k,h⟩]:=by
 unfold upto;rw [List.ofFn_succ_last];rfl
theorem ku {n k:Nat} (h:k≤n):(upto k h).length=k:=by simp [upto]
theorem EN (n:Nat) (hn:1≤n) (l Bs n₀:Nat) (bs:List (Int × Int)) (hok:okB bs=true) (a:Option Addr) (cap:Nat) (J Jx:List (Fin bs.length)→World→Prop) (B₀:Nat) (hJ0:AbidesFrom B₀ J)
  (hY:∀ pre x W,J pre W→pre.length<bs.length→YieldAt Fence.wide (n - 1) Tryz.prog l (XF bs x) W fun en W' =>
   (en= aj (ak true)∧J (pre++[x]) W'∧Below n₀ W W')∨(en= aj (ak false)∧Jx (pre++[x]) W'))
  (W:World) (hn₀:n₀≤W.heap.size) (hBs:W.cell? ⟨Bs,0,none⟩=some (.slice a bs.length cap)) (hlen:bs.length≤9223372036854775807)
  (hread:∀ k (_:k<bs.length),∃ b off,a=some ⟨b,off,none⟩∧b<n₀∧W.cell? ⟨b,off+k*2,none⟩=some (.int .i64 bs[k].1)∧W.cell? ⟨b,off+k*2+1,none⟩=some (.int .i64 bs[k].2)) (h0:J [] W) :
  CallsIn Fence.wide n Tryz.prog 230 #[.func (.yield l) #[] #[],aB (some ⟨Bs,0,none⟩)] W fun en W'=>(∃ v,en= aj v) ∧
   ((∃ ys,ys=upto bs.length (aD _)∧J ys W')∨(∃ pre,True∧Jx pre W')):=by
 have HR:=zh hread;have HY:=zh hY;have HJ:=zh hJ0;clear hread hY hJ0;refine callsIn_of_wp Tryz.func230 rfl trivial ?_ rfl;simp only [Tryz.ntmps230,List.size_toArray,bg,List.length_nil,Nat.reduceAdd,Nat.reduceSub,Array.replicate_succ,Array.replicate_zero,List.push_toArray,List.append_toArray,List.nil_append,dh]
 gi_wp2
 gi_loopw [9] (fun i wr=>∃ (k:Nat) (hk:k≤bs.length),i= Z I k∧J (upto k hk) wr∧Below n₀ W wr)
  (fun i _=>bs.length - (intOf i).toNat)
 case atStart=>exact ⟨0,Nat.zero_le _,rfl,h0,Below.refl _ _⟩
 case round =>
  obtain ⟨k,hk,rfl,hJs,hnx⟩:=hrel
  by_cases hlt:k<bs.length
  ·obtain ⟨b,off,rfl,hbl,hx1,hx2⟩:=HR.out k hlt;have hc1:=(hnx.cell (p:=⟨b,off+k*2,none⟩) hbl).trans hx1;have hc2:=(hnx.cell (p:=⟨b,off+k*2+1,none⟩) hbl).trans hx2;clear hx1 hx2
   have hv:iG bs[k].1 bs[k].2=true:=by
    unfold okB at hok;exact List.all_eq_true.1 hok _ (dY hlt)
   have HA:=zh (fun W=>N9 bs[k].1 bs[k].2 W);rw [XZ hv] at HA;have HYK:=zh (fun W1 Xt=>HY.out (upto k hk) ⟨k,hlt⟩ W1 Xt (by rw [ku];exact hlt));unfold XF at HYK;unfold d9 at HA;simp only at HA HYK;have e0:bs[k]=(bs[k].1,bs[k].2):=rfl;rw [← e0] at HA;have HB:=zh hbl;clear hv e0 hbl;generalize bs[k].1=y1 at *;generalize bs[k].2=y2 at *;generalize ((vG bs[k]:Nat):Int)=z1 at *;generalize ((vN bs[k]:Nat):Int)=z2 at *
   gi_wp2_with (refine ⟨trivial,?_⟩;gi_at_call 94;refine (callsIn_wide.2 (HA.out _)).mono ?_;rintro e w1 ⟨rfl,hc3⟩;have Xt:J (upto k hk) (w1.alloc (.cells #[Z I z1,Z I z2] 40)):=HJ.out _ _ _ none (HJ.out _ _ _ none (HJ.out _ _ _ none hJs (World.grownBy_alloc _ _ none) (fun r e=>by cases e)) (below_grown hc3) (fun r e=>by cases e)) (World.grownBy_alloc _ _ none) (fun r e=>by cases e);have hB1:Below n₀ W (w1.alloc (.cells #[Z I z1,Z I z2] 40)):=((hnx.alloc (ay hn₀ hnx.size) _).trans (hc3.mono (ay hn₀ (ay hnx.size zi)))).alloc (ay hn₀ (ay hnx.size (ay zi hc3.size))) _;obtain ⟨fn,tmps,assign,body,hy,hR⟩:=HYK.out _ Xt;have hy2:(Instr.yield l #[Value.agg #[Value.int I z1,Value.int I z2]]).run Tryz.prog (w1.alloc (.cells #[Z I z1,Z I z2] 40))=_:=hy;clear hy)
   refine hR.mono ?_;rintro e W3 (⟨rfl,hJ3,hk3⟩|⟨rfl,hJx3⟩)
   ·gi_wp2
    go_roundw
    case rel=>exact ⟨k+1,hlt,by simp,by rw [qN];exact hJ3,hB1.trans hk3⟩
    case measure=>exact zM
   ·gi_wp2
    refine bodyPost_ret (results_none rfl _ _ _) rfl ?_;exact ⟨⟨_,rfl⟩,.inr ⟨_,trivial,hJx3⟩⟩
  ·obtain rfl:k=bs.length:=by omega
   have hge:¬ bs.length<bs.length:=by omega
   have aA6:decide ((bs.length:Int)<(bs.length:Int))=false:=by simp
   gi_wp2
   go_end0
   exact ⟨⟨_,rfl⟩,.inl ⟨_,rfl,hJs⟩⟩
theorem H9 (n:Nat) (a:Option Addr) (len cap:Nat) (w:World) :
  CallsIn Fence.wide n Tryz.prog 153 #[ah a len cap] w fun e w'=>e= aj (.func (.func 230) #[] #[aB (some ⟨w.heap.size,0,none⟩)])∧w'=w.alloc (.cells #[ah a len cap] 122):=by
 refine callsIn_of_wp Tryz.func153 rfl trivial ?_ rfl;simp only [Tryz.ntmps153,List.size_toArray,bg,List.length_nil,Nat.reduceAdd,Nat.reduceSub,Array.replicate_succ,Array.replicate_zero,List.push_toArray,List.append_toArray,List.nil_append,dh]
 gi_wp2
 go_ret
 exact ⟨rfl,rfl⟩
theorem AP (n:Nat) (hn:1≤n) (Bs n₀:Nat) (sv:Value) (T:TypeId) (bs:List (Int × Int)) (hok:okB bs=true) (w0 w:World) (hBs:Bs<w.heap.size) (hn₀:n₀≤w.heap.size)
  (hc:w.cell? ⟨Bs,0,none⟩=some sv) (hR:wY w0 T sv bs) (h0:w0.heap.size≤n₀) (hb:Below w0.heap.size w0 w) :
  SeqStopsK Fence.wide n Tryz.prog 230 #[aB (some ⟨Bs,0,none⟩)] (XF bs) (Below n₀) (fun ys=>ys=upto bs.length (aD _)) (fun _=>True) bs.length w:=fun l J Jx W hW hJ _ hY hJ0=>by
 obtain ⟨a,cap,rfl,h1,h2,h3⟩:=hR.read;have hc':=(hW.cell (p:=⟨Bs,0,none⟩) hBs).trans hc;have hB:=hb.trans (hW.mono (ay h0 hn₀));refine EN n hn l Bs n₀ bs hok a cap J Jx _ hJ hY W (ay hn₀ hW.size) hc' zo (fun k hk=>?_) hJ0;obtain ⟨b,off,h4,h5,h6,h7⟩:=h3 k hk;exact ⟨b,off,h4,aI h5 h0,(hB.cell (p:=⟨b,_,none⟩) h5).trans h6,(hB.cell (p:=⟨b,_,none⟩) h5).trans h7⟩
end Go.Proofs.power
namespace Go.gD
open Go.Num
def VY:Rat:=((1000000000000000000000000:Int):Rat)
theorem PI:0<VY:=by unfold VY;exact Rat.intCast_pos.2 zo
def tK (l:List Nat):Rat:=((mJ l:Int):Rat) / VY
theorem SE:((0:Int):Rat) / ((1:Int):Rat)=tK []:=by
 unfold tK mJ;simp [Rat.div_def]
theorem Lj (x:Nat):rN x^2=(((x^2:Nat):Int):Rat) / VY:=by
 have h:VY=((1000000000000:Int):Rat)*((1000000000000:Int):Rat):=by
  unfold VY;rw [← Rat.intCast_mul];rfl
 have hp:((1000000000000:Int):Rat)≠0:=by decide
 unfold rN;rw [h];generalize ((1000000000000:Int):Rat)=c at *;rw [Int.natCast_pow,Rat.intCast_pow];generalize (((x:Nat):Int):Rat)=y
 grind
theorem E9 (l:List Nat) (x:Nat):tK (l++[x])=tK l+rN x^2:=by
 rw [Lj];unfold tK;rw [vX];have:mJ [x]=x^2:=by simp [mJ]
 rw [this,Int.natCast_add,Rat.intCast_add];have:=PI
 grind
theorem TS (a b:Nat):((a:Int):Rat) / VY<((b:Int):Rat) / VY↔a<b:=by
 have h0:=PI;have h1:VY≠0:=fun e=>by rw [e] at h0;exact absurd h0 zd
 rw [Rat.div_lt_iff h0,Rat.div_mul_cancel h1,Rat.intCast_lt_intCast];omega
theorem O7 (m:Nat) (l:List Nat):(oK (rN m^2) (tK l)≤0↔m≤nlo l)∧(oK (rN m^2) (tK l)<0↔m^2<mJ l):=by
 have h1:rN m^2<tK l↔m^2<mJ l:=by rw [Lj];exact TS _ _
 have h2:tK l<rN m^2↔mJ l<m^2:=by rw [Lj];exact TS _ _
 have h3:m≤nlo l↔m^2≤mJ l:=⟨fun h=>ay (Nat.pow_le_pow_left h 2) (Jr l).1,Z6⟩;unfold oK
 constructor
 ·rw [h3];split
  ·rename_i h;have:=h1.1 h;omega
  ·split
   ·rename_i h;have:=h2.1 h;omega
   ·rename_i h;have:¬ mJ l<m^2:=fun k=>h (h2.2 k);omega
 ·split
  ·rename_i h;have:=h1.1 h;omega
  ·rename_i h;have:¬ m^2<mJ l:=fun k=>h (h1.2 k);split<;>omega
end Go.gD
namespace Go.Fx
open Go Go.RowKit Go.SW Go.Num Go.Mem
section
variable {P:Program} {n:Nat} {R:Post} {w0:World} {H0:List Nat} {p p':Pos} {S S':Sl} {L L':Mm}
theorem cut (U:List (Nat × Array Value)) (h:G P n R w0 H0 p' S (upd L U)→G P n R w0 H0 p S L) (k:G P n R w0 H0 p' S (upd L U)):G P n R w0 H0 p S L:=h k
theorem meet (m:Nat) (hs:List Nat) (K:G P n R w0 H0 p' S' L') (he:(tr m hs p).2=p') (h:Ik P n w0 (tr m hs p).1 S L L':=by intro _;kernel_rfl) (hp:(tr m hs p).2.here=true:=by kernel_rfl)
  (hS:S'.map (fun x=>look (wW P n w0 (tr m hs p).1 S L) x.1)=S'.map (fun x=>look S' x.1):=by kernel_rfl):G P n R w0 H0 p S L :=
 YT hs L' h (G.of (he.symm ▸ K) (fun i v hv=>(OC (f:=fun x:Nat × Value=>look (wW P n w0 (tr m hs p).1 S L) x.1) (g:=fun x=>look S' x.1) hS (Co hv)).trans hv) hp)
end
end Go.Fx
namespace Go.Proofs
open Go Go.RowKit Go.SW Go.Num Go.Mem
theorem Qc (w:World) (a1 a2 a3 a4 a5 a6 b1 b2 b3 b4 b5 b6:ByteArray) :
  (Op.equalIn 10000 34 (au #[O a1,O a2,O a3,O a4,O a5,O a6]) (au #[O b1,O b2,O b3,O b4,O b5,O b6])).run Tryz.prog w
   = .ok (((a1 == b1)&&(a2 == b2))&&((a3 == b3)&&(a4 == b4))&&((a5 == b5)&&(a6 == b6))) w:=by
 obtain ⟨i0,hi⟩:=Option.isSome_iff_exists.1 (show (Tryz.prog.info? 32).isSome=true by kernel_rfl);rw [run_equalIn_array w 9999 _ _ Tryz.underlying34 hi];have hc:Tryz.prog.cellsOf 32=2:=by kernel_rfl
 rw [hc];go_simp;simp only [Op.eqItems];go_simp;simp only [beq_toListBytes]
 by_cases h1:a1.toList=b1.toList<;>by_cases h2:a2.toList=b2.toList<;>by_cases h3:a3.toList=b3.toList<;>by_cases h4:a4.toList=b4.toList<;>by_cases h5:a5.toList=b5.toList<;>by_cases h6:a6.toList=b6.toList<;>simp [h1,h2,h3,h4,h5,h6]
theorem jC (a1 a2 a3 a4 a5 a6:ByteArray) (w:World) :
  (Op.equalIn 10000 34 (au #[O a1,O a2,O a3,O a4,O a5,O a6]) (au #[O a1,O a2,O a3,O a4,O a5,O a6])).run Tryz.prog w= .ok true w:=by
 rw [Qc];simp [beq_toListBytes]
end Go.Proofs
namespace Go.Mem
open Go Go.RowKit Go.SW Go.Num Go.Dec
structure Hd (p:Prop):Type where
 out:p
def hd {p:Prop} (h:p):Hd p:=⟨h⟩
def Hd.bl {w w':World} {b:Nat} {cs:Array Value} {T:TypeId} (h:Hd (aA w b cs T)) (hb:Below w.heap.size w w'):Hd (aA w' b cs T):=hd (h.out.later hb)
end Go.Mem
namespace Go.Proofs.YtneajphgfdlmhaaGreatDoor
open Go Go.ChangeShapes Go.WideShapes Go.RowKit Go.Proofs
theorem iQ {P:Program} {w:World} {r:Reach} {b:Nat} {u:TypeId} {k:IntKind} {v:Value} (hu:P.underlying u=some (.int k)) (h:Cell.okWide P w r b u v):∃ n,v= .int k n∧k.has n:=by
 unfold Cell.okWide at h;simp only [hu] at h;unfold Cell.ok at h;simp only [hu] at h;cases v<;>simp at h
 obtain ⟨rfl,h⟩:=h;exact ⟨_,rfl,h⟩
theorem FE {P:Program} {w:World} {r:Reach} {b:Nat} {u:TypeId} {v:Value} (hu:P.underlying u=some .string) (h:Cell.okWide P w r b u v):∃ s,v= O s∧(s.size:Int)≤I.max:=by
 unfold Cell.okWide at h;simp only [hu] at h;unfold Cell.ok at h;simp only [hu] at h;cases v<;>simp at h
 exact ⟨_,rfl,h⟩
theorem OG {α:Type} {l:List α} (h:l.length=3):∃ x0 x1 x2,l=[x0,x1,x2]:=by
 match l,h with
 | [x0,x1,x2],_=>exact ⟨x0,x1,x2,rfl⟩
theorem an4 {α:Type} {l:List α} (h:l.length=6):∃ x0 x1 x2 x3 x4 x5,l=[x0,x1,x2,x3,x4,x5]:=by
 match l,h with
 | [x0,x1,x2,x3,x4,x5],_=>exact ⟨x0,x1,x2,x3,x4,x5,rfl⟩
theorem qW {P:Program} {w:World} {r:Reach} {b:Nat} {T:TypeId} {d:TypeDesc} {ts:List TypeId} {v:Value} (hu:P.underlying T=some d) (hd:(match d with| .struct _| .array _ _=>true| _=>false)=true)
  {n:Nat} (hc:P.cellTypes P.depth T=some ts) (hn:P.cellsOf T=n) (hl:ts.length=n) (h:Value.okWide P w r b T v):∃ l:List Value,v= au ⟨l⟩∧l.length=n∧∀ (i:Nat) x u,l[i]? =some x→ts[i]? =some u→Cell.okWide P w r b u x:=by
 have h':∃ cs,v= au cs∧cs.size=P.cellsOf T∧Row.okWide P w r b T cs:=by
  unfold Value.okWide at h;rw [hu] at h;cases d<;>simp at hd<;>exact h
 obtain ⟨⟨l⟩,rfl,hs,ts',ht, -, hx⟩:=h';rw [hc] at ht;cases ht
 refine ⟨l,rfl,by rw [← hn];exact hs,fun i x u hi hui=>?_⟩;obtain ⟨u',h1,h2⟩:=hx i x (by simpa using hi);have hlt:i<ts.length:=(List.getElem?_eq_some_iff.1 hui).1;rw [gq hlt,hui] at h1;cases h1
 exact h2
theorem MF {n:Int} (h:IntKind.u8.has n):0≤n∧n≤255:=by
 simpa [IntKind.has,IntKind.min,IntKind.max,IntKind.signed,IntKind.bits] using h
theorem OQ {n:Int} (h:IntKind.u16.has n):0≤n∧n≤65535:=by
 simpa [IntKind.has,IntKind.min,IntKind.max,IntKind.signed,IntKind.bits] using h
theorem G7 {n:Int} (h:IntKind.u32.has n):0≤n∧n≤4294967295:=by
 simpa [IntKind.has,IntKind.min,IntKind.max,IntKind.signed,IntKind.bits] using h
theorem Bb {n:Int} (h:IntKind.i16.has n):(-32768)≤n∧n≤32767:=by
 simpa [IntKind.has,IntKind.min,IntKind.max,IntKind.signed,IntKind.bits] using h
theorem Ba {n:Int} (h:I.has n):(-9223372036854775808)≤n∧n≤9223372036854775807:=by
 simpa [IntKind.has,IntKind.min,IntKind.max,IntKind.signed,IntKind.bits] using h
theorem uh:laidOutB Tryz.prog=true:=by kernel_rfl
end Go.Proofs.YtneajphgfdlmhaaGreatDoor
