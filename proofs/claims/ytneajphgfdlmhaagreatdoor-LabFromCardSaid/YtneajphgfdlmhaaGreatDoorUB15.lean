/- Lemmas for the proof. No condition. -/
import Derived.Test.YtneajphgfdlmhaaGreatDoorUB14
import Derived.RangeFuncLeaves
import Derived.RangeFuncFrom
import Derived.RangeFuncNested
import Derived.RangeFuncBound
import Derived.RangeFuncCalls
import Derived.Shelf.Abstract
import Derived.OwnWalkIn
import Derived.TacticsInMore
import Derived.LoopNIn
import Derived.LoopIn
import Derived.ChangeKeysEq
import Derived.ChangeSame
import Derived.ChangeVars
set_option linter.unusedVariables false
set_option linter.unusedSimpArgs false
set_option maxRecDepth 100000
set_option maxHeartbeats 16000000
open Bool renaming and_eq_true → aG
open Go.Ending renaming returned → ah
open Go.IntKind renaming i64 → I
open Go.Value renaming agg → au, bool → ak, int → Z, pointer → aA, slice → aj, string → O
open List renaming cons_append → dx, getElem_mem → fq, length_cons → bg
open Nat renaming le_refl → aC, le_trans → ay, lt_of_lt_of_le → aI, mod_eq_of_lt → gU
namespace Go.Proofs.power
open Go Go.RowKit Go.Shelf Go.SW Go.Num Go.Mem Go.Proofs Go.Dec Go.gB Go.Proofs.aW
attribute [local go_sem] Oper.semAt_some
theorem ZO {lo hi:Int} (h:gM lo hi=true):Xp lo hi=((((FQ (lo,hi):Nat):Int),((IW (lo,hi):Nat):Int)),0):=by
 obtain ⟨hk1,hk2,hk3⟩: -1000000000000000000≤lo∧lo≤hi∧hi≤1000000000000000000:=by simpa [gM] using h
 unfold Xp;rw [if_pos h]
 have e1:((FQ (lo,hi):Nat):Int)=max (max lo (-hi)) 0:=by
  unfold FQ;simp only;omega
 have e2:((IW (lo,hi):Nat):Int)=max (-lo) hi:=by
  unfold IW;simp only;omega
 rw [e1,e2];unfold gN;rw [if_pos];unfold gM;simp only [aG,decide_eq_true_eq];omega
theorem NK {b:Int × Int} (h:gM b.1 b.2=true):FQ b≤IW b∧IW b≤10^18:=by
 obtain ⟨hk1,hk2,hk3⟩: -1000000000000000000≤b.1∧b.1≤b.2∧b.2≤1000000000000000000:=by simpa [gM] using h
 have h18:(10:Nat)^18=1000000000000000000:=by decide
 rw [h18];unfold FQ IW;omega
theorem below_grown {W W':World} (h:Below W.heap.size W W'):W.grownBy W' none:=⟨h.os,h.tape,h.output,h.size,fun i hi _=>h.block i hi⟩
def Zw (bs:List (Int × Int)) (k:Fin bs.length):Array Value:=#[au #[Z I ((FQ bs[k.1]:Nat):Int),Z I ((IW bs[k.1]:Nat):Int)]]
def upto {n:Nat} (k:Nat) (h:k≤n):List (Fin n):=List.ofFn (n:=k) fun i=>⟨i.1,aI i.2 h⟩
theorem rR {n k:Nat} (h:k+1≤n):upto (k+1) h=upto k zo++[⟨k,h⟩]:=by
 unfold upto;rw [List.ofFn_succ_last];rfl
theorem kU {n k:Nat} (h:k≤n):(upto k h).length=k:=by simp [upto]
theorem F6 (n:Nat) (hn:1≤n) (l Bs n₀:Nat) (bs:List (Int × Int)) (hok:okB bs=true) (a:Option Addr) (cap:Nat) (J Jx:List (Fin bs.length)→World→Prop) (B₀:Nat) (hJ0:AbidesFrom B₀ J)
  (hY:∀ pre x W,J pre W→pre.length<bs.length→YieldAt Fence.wide (n - 1) Tryz.prog l (Zw bs x) W fun en W' =>
   (en= ah (ak true)∧J (pre++[x]) W'∧Below n₀ W W')∨(en= ah (ak false)∧Jx (pre++[x]) W'))
  (W:World) (hn₀:n₀≤W.heap.size) (hBs:W.cell? ⟨Bs,0,none⟩=some (.slice a bs.length cap)) (hlen:bs.length≤9223372036854775807)
  (hread:∀ k (_:k<bs.length),∃ b off,a=some ⟨b,off,none⟩∧b<n₀∧W.cell? ⟨b,off+k*2,none⟩=some (.int .i64 bs[k].1)∧W.cell? ⟨b,off+k*2+1,none⟩=some (.int .i64 bs[k].2)) (h0:J [] W) :
  CallsIn Fence.wide n Tryz.prog 230 #[.func (.yield l) #[] #[],aA (some ⟨Bs,0,none⟩)] W fun en W'=>(∃ v,en= ah v) ∧
   ((∃ ys,ys=upto bs.length (aC _)∧J ys W')∨(∃ pre,True∧Jx pre W')):=by
 have HR:=zh hread;have HY:=zh hY;have HJ:=zh hJ0;clear hread hY hJ0;refine callsIn_of_wp Tryz.func230 rfl trivial ?_ rfl;simp only [Tryz.ntmps230,List.size_toArray,bg,List.length_nil,Nat.reduceAdd,Nat.reduceSub,Array.replicate_succ,Array.replicate_zero,List.push_toArray,List.append_toArray,List.nil_append,dx]
 gi_wp2
 gi_loopw [9] (fun i wr=>∃ (k:Nat) (hk:k≤bs.length),i= Z I k∧J (upto k hk) wr∧Below n₀ W wr)
  (fun i _=>bs.length - (intOf i).toNat)
 case atStart=>exact ⟨0,Nat.zero_le _,rfl,h0,Below.refl _ _⟩
 case round =>
  obtain ⟨k,hk,rfl,hJs,hnx⟩:=hrel
  by_cases hlt:k<bs.length
  ·obtain ⟨b,off,rfl,hbl,hx1,hx2⟩:=HR.out k hlt;have hc1:=(hnx.cell (p:=⟨b,off+k*2,none⟩) hbl).trans hx1;have hc2:=(hnx.cell (p:=⟨b,off+k*2+1,none⟩) hbl).trans hx2;clear hx1 hx2
   have hv:gM bs[k].1 bs[k].2=true:=by
    unfold okB at hok;exact List.all_eq_true.1 hok _ (fq hlt)
   have HA:=zh (fun W=>aq4 bs[k].1 bs[k].2 W);rw [ZO hv] at HA;have HYK:=zh (fun W1 Zj=>HY.out (upto k hk) ⟨k,hlt⟩ W1 Zj (by rw [kU];exact hlt));unfold Zw at HYK;unfold dZ at HA;simp only at HA HYK;have e0:bs[k]=(bs[k].1,bs[k].2):=rfl;rw [← e0] at HA;have HB:=zh hbl;clear hv e0 hbl;generalize bs[k].1=y1 at *;generalize bs[k].2=y2 at *;generalize ((FQ bs[k]:Nat):Int)=z1 at *;generalize ((IW bs[k]:Nat):Int)=z2 at *
   gi_wp2_with (refine ⟨trivial,?_⟩;gi_at_call 94;refine (callsIn_wide.2 (HA.out _)).mono ?_;rintro e w1 ⟨rfl,hc3⟩;have Zj:J (upto k hk) (w1.alloc (.cells #[Z I z1,Z I z2] 40)):=HJ.out _ _ _ none (HJ.out _ _ _ none (HJ.out _ _ _ none hJs (World.grownBy_alloc _ _ none) (fun r e=>by cases e)) (below_grown hc3) (fun r e=>by cases e)) (World.grownBy_alloc _ _ none) (fun r e=>by cases e);have hB1:Below n₀ W (w1.alloc (.cells #[Z I z1,Z I z2] 40)):=((hnx.alloc (ay hn₀ hnx.size) _).trans (hc3.mono (ay hn₀ (ay hnx.size zi)))).alloc (ay hn₀ (ay hnx.size (ay zi hc3.size))) _;obtain ⟨fn,tmps,assign,body,hy,hR⟩:=HYK.out _ Zj;have hy2:(Instr.yield l #[Value.agg #[Value.int I z1,Value.int I z2]]).run Tryz.prog (w1.alloc (.cells #[Z I z1,Z I z2] 40))=_:=hy;clear hy)
   refine hR.mono ?_;rintro e W3 (⟨rfl,hJ3,hk3⟩|⟨rfl,hJx3⟩)
   ·gi_wp2
    go_roundw
    case rel=>exact ⟨k+1,hlt,by simp,by rw [rR];exact hJ3,hB1.trans hk3⟩
    case measure=>exact zM
   ·gi_wp2
    refine bodyPost_ret (results_none rfl _ _ _) rfl ?_;exact ⟨⟨_,rfl⟩,.inr ⟨_,trivial,hJx3⟩⟩
  ·obtain rfl:k=bs.length:=by omega
   have hge:¬ bs.length<bs.length:=by omega
   have aJ3:decide ((bs.length:Int)<(bs.length:Int))=false:=by simp
   gi_wp2
   go_end0
   exact ⟨⟨_,rfl⟩,.inl ⟨_,rfl,hJs⟩⟩
theorem IX (n:Nat) (a:Option Addr) (len cap:Nat) (w:World) :
  CallsIn Fence.wide n Tryz.prog 153 #[aj a len cap] w fun e w'=>e= ah (.func (.func 230) #[] #[aA (some ⟨w.heap.size,0,none⟩)])∧w'=w.alloc (.cells #[aj a len cap] 122):=by
 refine callsIn_of_wp Tryz.func153 rfl trivial ?_ rfl;simp only [Tryz.ntmps153,List.size_toArray,bg,List.length_nil,Nat.reduceAdd,Nat.reduceSub,Array.replicate_succ,Array.replicate_zero,List.push_toArray,List.append_toArray,List.nil_append,dx]
 gi_wp2
 go_ret
 exact ⟨rfl,rfl⟩
theorem Bu (n:Nat) (hn:1≤n) (Bs n₀:Nat) (sv:Value) (T:TypeId) (bs:List (Int × Int)) (hok:okB bs=true) (w0 w:World) (hBs:Bs<w.heap.size) (hn₀:n₀≤w.heap.size)
  (hc:w.cell? ⟨Bs,0,none⟩=some sv) (hR:zG w0 T sv bs) (h0:w0.heap.size≤n₀) (hb:Below w0.heap.size w0 w) :
  SeqStopsK Fence.wide n Tryz.prog 230 #[aA (some ⟨Bs,0,none⟩)] (Zw bs) (Below n₀) (fun ys=>ys=upto bs.length (aC _)) (fun _=>True) bs.length w:=fun l J Jx W hW hJ _ hY hJ0=>by
 obtain ⟨a,cap,rfl,h1,h2,h3⟩:=hR.read;have hc':=(hW.cell (p:=⟨Bs,0,none⟩) hBs).trans hc;have hB:=hb.trans (hW.mono (ay h0 hn₀));refine F6 n hn l Bs n₀ bs hok a cap J Jx _ hJ hY W (ay hn₀ hW.size) hc' zo (fun k hk=>?_) hJ0;obtain ⟨b,off,h4,h5,h6,h7⟩:=h3 k hk;exact ⟨b,off,h4,aI h5 h0,(hB.cell (p:=⟨b,_,none⟩) h5).trans h6,(hB.cell (p:=⟨b,_,none⟩) h5).trans h7⟩
end Go.Proofs.power
namespace Go.gB
open Go.Num
end Go.gB
namespace Go.Fx
open Go Go.RowKit Go.SW Go.Num Go.Mem
section
variable {P:Program} {n:Nat} {R:Post} {w0:World} {H0:List Nat} {p p':Pos} {S S':Sl} {L L':Mm}
end
end Go.Fx
namespace Go.Proofs
open Go Go.RowKit Go.SW Go.Num Go.Mem
theorem QL (w:World) (a1 a2 a3 a4 a5 a6 b1 b2 b3 b4 b5 b6:ByteArray) :
  (Op.equalIn 10000 34 (au #[O a1,O a2,O a3,O a4,O a5,O a6]) (au #[O b1,O b2,O b3,O b4,O b5,O b6])).run Tryz.prog w
   = .ok (((a1 == b1)&&(a2 == b2))&&((a3 == b3)&&(a4 == b4))&&((a5 == b5)&&(a6 == b6))) w:=by
 obtain ⟨i0,hi⟩:=Option.isSome_iff_exists.1 (show (Tryz.prog.info? 32).isSome=true by kernel_rfl);rw [run_equalIn_array w 9999 _ _ Tryz.underlying34 hi];have hc:Tryz.prog.cellsOf 32=2:=by kernel_rfl
 rw [hc];go_simp;simp only [Op.eqItems];go_simp;simp only [beq_toListBytes]
 by_cases h1:a1.toList=b1.toList<;>by_cases h2:a2.toList=b2.toList<;>by_cases h3:a3.toList=b3.toList<;>by_cases h4:a4.toList=b4.toList<;>by_cases h5:a5.toList=b5.toList<;>by_cases h6:a6.toList=b6.toList<;>simp [h1,h2,h3,h4,h5,h6]
theorem jS (a1 a2 a3 a4 a5 a6:ByteArray) (w:World) :
  (Op.equalIn 10000 34 (au #[O a1,O a2,O a3,O a4,O a5,O a6]) (au #[O a1,O a2,O a3,O a4,O a5,O a6])).run Tryz.prog w= .ok true w:=by
 rw [QL];simp [beq_toListBytes]
end Go.Proofs
namespace Go.Mem
open Go Go.RowKit Go.SW Go.Num Go.Dec
structure Hd (p:Prop):Type where
 out:p
def hd {p:Prop} (h:p):Hd p:=⟨h⟩
def Hd.bl {w w':World} {b:Nat} {cs:Array Value} {T:TypeId} (h:Hd (aB w b cs T)) (hb:Below w.heap.size w w'):Hd (aB w' b cs T):=hd (h.out.later hb)
end Go.Mem
namespace Go.Proofs.YtneajphgfdlmhaaGreatDoor
open Go Go.ChangeShapes Go.WideShapes Go.RowKit Go.Proofs
theorem jd {P:Program} {w:World} {r:Reach} {b:Nat} {u:TypeId} {k:IntKind} {v:Value} (hu:P.underlying u=some (.int k)) (h:Cell.okWide P w r b u v):∃ n,v= .int k n∧k.has n:=by
 unfold Cell.okWide at h;simp only [hu] at h;unfold Cell.ok at h;simp only [hu] at h;cases v<;>simp at h
 obtain ⟨rfl,h⟩:=h;exact ⟨_,rfl,h⟩
theorem GA {P:Program} {w:World} {r:Reach} {b:Nat} {u:TypeId} {v:Value} (hu:P.underlying u=some .string) (h:Cell.okWide P w r b u v):∃ s,v= O s∧(s.size:Int)≤I.max:=by
 unfold Cell.okWide at h;simp only [hu] at h;unfold Cell.ok at h;simp only [hu] at h;cases v<;>simp at h
 exact ⟨_,rfl,h⟩
theorem Pz {α:Type} {l:List α} (h:l.length=3):∃ x0 x1 x2,l=[x0,x1,x2]:=by
 match l,h with
 | [x0,x1,x2],_=>exact ⟨x0,x1,x2,rfl⟩
theorem aw8 {α:Type} {l:List α} (h:l.length=6):∃ x0 x1 x2 x3 x4 x5,l=[x0,x1,x2,x3,x4,x5]:=by
 match l,h with
 | [x0,x1,x2,x3,x4,x5],_=>exact ⟨x0,x1,x2,x3,x4,x5,rfl⟩
theorem su {P:Program} {w:World} {r:Reach} {b:Nat} {T:TypeId} {d:TypeDesc} {ts:List TypeId} {v:Value} (hu:P.underlying T=some d) (hd:(match d with| .struct _| .array _ _=>true| _=>false)=true)
  {n:Nat} (hc:P.cellTypes P.depth T=some ts) (hn:P.cellsOf T=n) (hl:ts.length=n) (h:Value.okWide P w r b T v):∃ l:List Value,v= au ⟨l⟩∧l.length=n∧∀ (i:Nat) x u,l[i]? =some x→ts[i]? =some u→Cell.okWide P w r b u x:=by
 have h':∃ cs,v= au cs∧cs.size=P.cellsOf T∧Row.okWide P w r b T cs:=by
  unfold Value.okWide at h;rw [hu] at h;cases d<;>simp at hd<;>exact h
 obtain ⟨⟨l⟩,rfl,hs,ts',ht, -, hx⟩:=h';rw [hc] at ht;cases ht
 refine ⟨l,rfl,by rw [← hn];exact hs,fun i x u hi hui=>?_⟩;obtain ⟨u',h1,h2⟩:=hx i x (by simpa using hi);have hlt:i<ts.length:=(List.getElem?_eq_some_iff.1 hui).1;rw [gU hlt,hui] at h1;cases h1
 exact h2
theorem Wx {n:Int} (h:IntKind.u8.has n):0≤n∧n≤255:=by
 simpa [IntKind.has,IntKind.min,IntKind.max,IntKind.signed,IntKind.bits] using h
theorem yN {n:Int} (h:IntKind.u16.has n):0≤n∧n≤65535:=by
 simpa [IntKind.has,IntKind.min,IntKind.max,IntKind.signed,IntKind.bits] using h
theorem IG {n:Int} (h:IntKind.u32.has n):0≤n∧n≤4294967295:=by
 simpa [IntKind.has,IntKind.min,IntKind.max,IntKind.signed,IntKind.bits] using h
theorem BK {n:Int} (h:IntKind.i16.has n):(-32768)≤n∧n≤32767:=by
 simpa [IntKind.has,IntKind.min,IntKind.max,IntKind.signed,IntKind.bits] using h
theorem PS {n:Int} (h:I.has n):(-9223372036854775808)≤n∧n≤9223372036854775807:=by
 simpa [IntKind.has,IntKind.min,IntKind.max,IntKind.signed,IntKind.bits] using h
theorem uU:laidOutB Tryz.prog=true:=by kernel_rfl
end Go.Proofs.YtneajphgfdlmhaaGreatDoor
