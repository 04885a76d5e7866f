/- Lemmas for the proof. No condition. -/
import Derived.Test.YtbngfhgoeoncmaaGreatDoorWB11
import Derived.Defers
import Derived.Tactics2
set_option linter.unusedVariables false
set_option linter.unusedSimpArgs false
set_option maxRecDepth 100000
set_option maxHeartbeats 16000000
open Array renaming getElem?_eq_none → bQ
open Bool renaming and_eq_true → aF
open Go.Ending renaming returned → aj
open Go.IntKind renaming i64 → I
open Go.Value renaming agg → aB, bool → ak, int → Z, pointer → ay, slice → ah, string → O, tuple → aD
open List renaming all_eq_true → dI, cons_append → bP, getElem_mem → dx, length_cons → aV, mem_cons → dQ, not_mem_nil → gU, range → dB, set_cons_succ → aN, set_cons_zero → aM
open Nat renaming add_zero → fZ, le_refl → aC, le_trans → au, lt_of_lt_of_le → aP, lt_or_ge → aH
namespace Go.Proofs.light
open Go Go.RowKit Go.SW Go.Num Go.Mem Go.Proofs Go.Dec Go.fG
theorem J6 (v:Value) (l:List Fr) (T:TypeId) (w:World) (h:vC w T v l) :
  Calls Tryz.prog 193 #[v] w (fun e w'=>e= aj (Z I (jU l))∧Bw w w'):=by
 obtain ⟨a,cap,rfl,hc1,hc2,hread⟩:=h.read;have H:=zh hread;clear h hread;go_enter Tryz.func193,Tryz.ntmps193
 go_wp2_with fail
 go_loopw [8] (fun iv wr=>∃ k:Nat,iv= Z I (k:Int)∧k≤l.length∧Hid (∀ j (h:j<l.length),j<k→(rd l[j]).isSome=true)∧Bw w wr) (fun iv _=>l.length - (intOf iv).toNat)
 case atStart=>exact ⟨0,rfl,by omega,zh (fun j _ h=>by omega),Below.refl _ _⟩
 case round =>
  obtain ⟨k,rfl,hk,HK,hb⟩:=hrel
  rcases aH k l.length with hlt|hge
  ·obtain ⟨b,off,rfl,hbl,hx1,hx2⟩:=H.out k hlt;have hc1:=(hb.cell (p:=⟨b,off+k*2,none⟩) hbl).trans hx1;have hc2:=(hb.cell (p:=⟨b,off+k*2+1,none⟩) hbl).trans hx2;clear hx1 hx2;have hck:=dZ.mE l[k];generalize hlk:l[k]=lk at *;obtain ⟨s,t⟩:=lk;cases hv:(rd ⟨s,t⟩).isSome with
   | true =>
    rw [FZ hv] at hck;have Ig:Hid (∀ w,Calls Tryz.prog 69 #[aB #[O s,O t]] w (fun e w'=>e= aj (Z I 0)∧Bw w w')):=zh hck;have HLK:=zh hlk;have HV:=zh hv;clear hck hlk hv;go_wp2_with fail
    refine (Ig.out _).mono ?_;rintro e v1 ⟨rfl,hc1⟩;go_wp2_with fail
    go_roundw
    case rel =>
     refine ⟨k+1,by go_num,by omega,zh fun j hj hjk=>?_,Bt hb aI⟩
     rcases aH j k with h|h
     ·exact HK.out j hj h
     ·obtain rfl:j=k:=by omega
      rw [HLK.out];exact HV.out
    case measure=>exact zM
   | false =>
    rw [PD hv] at hck;have Ig:Hid (∀ w,Calls Tryz.prog 69 #[aB #[O s,O t]] w (fun e w'=>e= aj (Z I 20)∧Bw w w')):=zh hck
    have hno:jU l=20:=by
     unfold jU;rw [if_neg];intro h;have:=List.all_eq_true.1 h l[k] (dx _);rw [hlk,hv] at this;cases this
    have HNO:=zh hno;clear hck hlk hv hno;go_wp2_with fail
    refine (Ig.out _).mono ?_;rintro e v1 ⟨rfl,hc1⟩;go_wp2_with fail
    go_ret
    exact ⟨by rw [HNO.out];rfl,Bt hb aI⟩
  ·have hyes:jU l=0:=by
    unfold jU;rw [if_pos];rw [dI];intro x hx;obtain ⟨j,hj,rfl⟩:=List.getElem_of_mem hx;exact HK.out j hj zo
   have XD:=zh hyes;clear hyes;obtain rfl:k=l.length:=by omega
   go_wp2_with fail
   go_ret
   exact ⟨by rw [XD.out];rfl,hb⟩
end Go.Proofs.light
namespace Go.Proofs.light
open Go Go.RowKit Go.Shelf Go.SW Go.Num Go.Mem Go.Proofs Go.Dec Go.fG
attribute [local go_sem] Oper.semAt_some
theorem ar6 (a b c d e f:ByteArray) (w:World):(Instr.index 40 (aB #[O a,O b,O c,O d,O e,O f]) (Z I 0)).run Tryz.prog w= .ok (aB #[O a,O b]) w:=by kernel_rfl
theorem ar5 (a b c d e f:ByteArray) (w:World):(Instr.index 40 (aB #[O a,O b,O c,O d,O e,O f]) (Z I 1)).run Tryz.prog w= .ok (aB #[O c,O d]) w:=by kernel_rfl
theorem ar4 (a b c d e f:ByteArray) (w:World):(Instr.index 40 (aB #[O a,O b,O c,O d,O e,O f]) (Z I 2)).run Tryz.prog w= .ok (aB #[O e,O f]) w:=by kernel_rfl
--iff light.numbers$1
theorem LY (F:Fence) (n:Nat) (hf:F.fn 194) (hro:F.round=none) (hn:1≤n) (l Bs n₀:Nat) (a b c d e f:ByteArray) (J Jx:List (Fin 3)→World→Prop) (B₀:Nat) (hJ0:AbidesFrom B₀ J)
  (hY:∀ pre x W,J pre W→pre.length<3→YieldAt F (n - 1) Tryz.prog l (enc ⟨⟨a,b⟩,⟨c,d⟩,⟨e,f⟩⟩ x) W fun en W' =>
   (en= aj (ak true)∧J (pre++[x]) W'∧Below n₀ W W')∨(en= aj (ak false)∧Jx (pre++[x]) W'))
  (W:World) (hn₀:n₀≤W.heap.size) (hBs:∀ o,W.cell? ⟨Bs,o,none⟩=#[Value.string a,O b,O c,O d,O e,O f][o]?) (h0:J [] W) :
  CallsIn F n Tryz.prog 194 #[.func (.yield l) #[] #[],ay (some ⟨Bs,0,none⟩)] W fun en W'=>(∃ v,en= aj v) ∧
   ((∃ ys,ys=upto 3 (aC _)∧J ys W')∨(∃ pre,True∧Jx pre W')):=by
 have i0:=ar6 a b c d e f;have i1:=ar5 a b c d e f;have i2:=ar4 a b c d e f;refine callsIn_of_wp Tryz.func194 rfl hf ?_ hro;simp only [Tryz.ntmps194,List.size_toArray,aV,List.length_nil,Nat.reduceAdd,Nat.reduceSub,Array.replicate_succ,Array.replicate_zero,List.push_toArray,List.append_toArray,List.nil_append,bP]
 gi_wp2
 gi_loopw [6] (fun i wr=>∃ (k:Nat) (hk:k≤3),i= Z I k∧J (upto k hk) wr∧Below n₀ W wr)
  (fun i _=>3 - (intOf i).toNat)
 case atStart=>exact ⟨0,Nat.zero_le _,rfl,h0,Below.refl _ _⟩
 case round =>
  obtain ⟨k,hk,rfl,hJs,hnx⟩:=hrel
  by_cases hlt:k<3
  ·have hkk:k=0∨k=1∨k=2:=by omega
   rcases hkk with rfl|rfl|rfl
   ·have hJ1:J (upto 0 hk) (wr.alloc (.cells #[O a,O b] 38)):=hJ0 _ _ _ none hJs (World.grownBy_alloc _ _ none) (fun r e=>by cases e);have hB1:Below n₀ W (wr.alloc (.cells #[O a,O b] 38)):=hnx.alloc (au hn₀ hnx.size) _;obtain ⟨fn,tmps,assign,body,hy,hR⟩:=hY _ ⟨0,hlt⟩ _ hJ1 (by rw [kK];exact hlt);have hy2:(Instr.yield l #[Value.int I 0,Value.agg #[Value.string a,Value.string b]]).run Tryz.prog (wr.alloc (.cells #[O a,O b] 38))=_:=hy;clear hy hY
    gi_wp2
    refine hR.mono ?_;rintro e W3 (⟨rfl,hJ3,hk3⟩|⟨rfl,hJx3⟩)
    ·gi_wp2
     go_roundw
     case rel=>exact ⟨0+1,hlt,by simp,by rw [sU];exact hJ3,hB1.trans hk3⟩
     case measure=>simp [intOf]
    ·gi_wp2
     refine bodyPost_ret (results_none rfl _ _ _) rfl ?_;exact ⟨⟨_,rfl⟩,.inr ⟨_,trivial,hJx3⟩⟩
   ·have hJ1:J (upto 1 hk) (wr.alloc (.cells #[O c,O d] 38)):=hJ0 _ _ _ none hJs (World.grownBy_alloc _ _ none) (fun r e=>by cases e);have hB1:Below n₀ W (wr.alloc (.cells #[O c,O d] 38)):=hnx.alloc (au hn₀ hnx.size) _;obtain ⟨fn,tmps,assign,body,hy,hR⟩:=hY _ ⟨1,hlt⟩ _ hJ1 (by rw [kK];exact hlt);have hy2:(Instr.yield l #[Value.int I 1,Value.agg #[Value.string c,Value.string d]]).run Tryz.prog (wr.alloc (.cells #[O c,O d] 38))=_:=hy;clear hy hY
    gi_wp2
    refine hR.mono ?_;rintro e W3 (⟨rfl,hJ3,hk3⟩|⟨rfl,hJx3⟩)
    ·gi_wp2
     go_roundw
     case rel=>exact ⟨1+1,hlt,by simp,by rw [sU];exact hJ3,hB1.trans hk3⟩
     case measure=>simp [intOf]
    ·gi_wp2
     refine bodyPost_ret (results_none rfl _ _ _) rfl ?_;exact ⟨⟨_,rfl⟩,.inr ⟨_,trivial,hJx3⟩⟩
   ·have hJ1:J (upto 2 hk) (wr.alloc (.cells #[O e,O f] 38)):=hJ0 _ _ _ none hJs (World.grownBy_alloc _ _ none) (fun r e=>by cases e);have hB1:Below n₀ W (wr.alloc (.cells #[O e,O f] 38)):=hnx.alloc (au hn₀ hnx.size) _;obtain ⟨fn,tmps,assign,body,hy,hR⟩:=hY _ ⟨2,hlt⟩ _ hJ1 (by rw [kK];exact hlt);have hy2:(Instr.yield l #[Value.int I 2,Value.agg #[Value.string e,Value.string f]]).run Tryz.prog (wr.alloc (.cells #[O e,O f] 38))=_:=hy;clear hy hY
    gi_wp2
    refine hR.mono ?_;rintro e W3 (⟨rfl,hJ3,hk3⟩|⟨rfl,hJx3⟩)
    ·gi_wp2
     go_roundw
     case rel=>exact ⟨2+1,hlt,by simp,by rw [sU];exact hJ3,hB1.trans hk3⟩
     case measure=>simp [intOf]
    ·gi_wp2
     refine bodyPost_ret (results_none rfl _ _ _) rfl ?_;exact ⟨⟨_,rfl⟩,.inr ⟨_,trivial,hJx3⟩⟩
  ·obtain rfl:k=3:=by omega
   clear hY
   gi_wp2
   go_end0
   exact ⟨⟨_,rfl⟩,.inl ⟨_,rfl,hJs⟩⟩
--fi
theorem E9 (F:Fence) (n:Nat) (hf:F.fn 125) (hro:F.round=none) (t:ig) (w:World) :
  CallsIn F n Tryz.prog 125 #[t.v] w fun e w'=>e= aj (.func (.func 194) #[] #[ay (some ⟨w.heap.size,0,none⟩)])∧w'=w.alloc (.cells t.cells 40):=by
 obtain ⟨⟨a,b⟩,⟨c,d⟩,⟨e,f⟩⟩:=t;simp only [ig.v,ig.cells];refine callsIn_of_wp Tryz.func125 rfl hf ?_ hro;simp only [Tryz.ntmps125,List.size_toArray,aV,List.length_nil,Nat.reduceAdd,Nat.reduceSub,Array.replicate_succ,Array.replicate_zero,List.push_toArray,List.append_toArray,List.nil_append,bP]
 gi_wp2
 go_ret
 exact ⟨rfl,rfl⟩
theorem xZ (F:Fence) (n:Nat) (hf:F.fn 194) (hro:F.round=none) (hn:1≤n) (Bs n₀:Nat) (t:ig) (w:World) (hn₀:n₀≤w.heap.size) (hx:aA w Bs t.cells 40) :
  SeqStopsK F n Tryz.prog 194 #[ay (some ⟨Bs,0,none⟩)] (enc t) (Below n₀) (fun ys=>ys=upto 3 (aC _)) (fun _=>True) 3 w:=fun l J Jx W hW hJ _ hY hJ0=>by
 obtain ⟨⟨a,b⟩,⟨c,d⟩,⟨e,f⟩⟩:=t;exact LY F n hf hro hn l Bs n₀ a b c d e f J Jx _ hJ hY W (au hn₀ hW.size) (fun o=>(hx.later hW).cell o) hJ0
attribute [local go_sem] Oper.semAt_some
theorem gK {W W':World} (h:Bw W W'):KeepsOthers W W' :=
 ⟨h.size,fun k o hk _=>(h.block k (Array.getElem?_eq_some_iff.1 hk).1).trans hk⟩
theorem iF {W W':World} {row:Option Nat} {b:Nat} {cs:Array Value} {T:TypeId} (h:aA W b cs T) (hg:W.grownBy W' row) (hr:∀ r,row=some r→∃ o:Obj,W.heap[r]? =some o∧o.isCells=false):aA W' b cs T:=by
 unfold aA at *;rw [hg.block b (Array.getElem?_eq_some_iff.1 h).1 ?_]
 ·exact h
 ·intro e;obtain ⟨o,ho,hc⟩:=hr b e.symm;rw [h] at ho;cases ho
  cases hc
def F3 (t:ig):Int:=if jU t.list=0 then (if t.list.all (fun f=>decide (0≤(jQ f).1)) then 0 else 2) else 20
theorem ig.frs {w:World} {b:Nat} {t:ig} {T:TypeId} (h:aA w b t.cells T):vC w T (ah (some ⟨b,0,none⟩) 3 3) t.list:=by
 refine ⟨some ⟨b,0,none⟩,3,rfl,aC _,by omega,(fun h=>by cases h),fun ad h'=>?_⟩;cases h'
 refine ⟨rfl,t.cells,h,fun i hi=>?_⟩;have:i<3:=hi;have hc:i=0∨i=1∨i=2:=by omega
 rcases hc with rfl|rfl|rfl<;>exact ⟨rfl,rfl⟩
theorem kI (t:ig) (w:World):Calls Tryz.prog 124 #[t.v] w fun e w'=>e= aj (Z I (F3 t))∧Bw w w':=by
 have Uf:Hid (∀ W b,aA W b t.cells 40→Calls Tryz.prog 193 #[ah (some ⟨b,0,none⟩) 3 3] W (fun e w'=>e= aj (Z I (jU t.list))∧Bw W w')):=zh fun W b h=>J6 (ah (some ⟨b,0,none⟩) 3 3) t.list 40 W (ig.frs h);have HNU:Hid (∀ w,CallsIn Fence.wide 2 Tryz.prog 125 #[t.v] w fun e w'=>e= aj (.func (.func 194) #[] #[ay (some ⟨w.heap.size,0,none⟩)])∧w'=w.alloc (.cells t.cells 40)):=zh (E9 Fence.wide 2 trivial rfl t);have RG:Hid (∀ x:Fin 3,∀ w,Calls Tryz.prog 75 #[(t.get x.1).v] w (fun e w'=>e= aj (dZ.pair (jQ (t.get x.1)))∧Bw w w')):=zh fun x=>dZ.qy _;unfold F3;generalize Tc:jU t.list=ck at *;have hck:ck=0∨ck=20:=by rw [← Tc];unfold jU;split<;>simp
 obtain ⟨z,Ez⟩:∃ y:Int,Hid ((if t.list.all (fun f=>decide (0≤(jQ f).1)) then 0 else 2)=y):=⟨_,zh rfl⟩;rw [Ez.out];refine (callsIn_wide (n:=3)).1 ?_;refine callsIn_of_wp_marks Tryz.func124 rfl trivial ?_ rfl;simp only [Tryz.ntmps124,List.size_toArray,aV,List.length_nil,Nat.reduceAdd,Nat.reduceSub,Array.replicate_succ,Array.replicate_zero,List.push_toArray,List.append_toArray,List.nil_append,bP];obtain ⟨⟨a,b⟩,⟨c,d⟩,⟨e,f⟩⟩:=t;simp only [ig.v,ig.cells] at *;obtain ⟨wa,Uh⟩:∃ y:World,Hid ((w.alloc (.cells #[O a,O b,O c,O d,O e,O f] 40)).alloc (.cells #[Z I 0] 28)=y):=⟨_,zh rfl⟩;have hba:aA wa w.heap.size #[O a,O b,O c,O d,O e,O f] 40:=by rw [← Uh.out];exact bq
 have hbr:aA wa (w.heap.size+1) #[Z I 0] 28:=by rw [← Uh.out];exact bq
 have hB1:Bw w wa:=by rw [← Uh.out];exact aI
 have HBA:=zh hba;have HBR:=zh hbr;have HB1:=zh hB1;clear hba hbr hB1
 rcases hck with rfl|rfl
 ·rw [if_pos rfl];clear Tc
  gi_wp2_with (refine ⟨trivial,?_⟩;gi_at_call 193;rw [Uh.out];refine (callsIn_wide.2 (Uf.out _ _ HBA.out)).mono ?_;rintro e w1 ⟨rfl,hc1⟩;have hb0:=HBA.out.later hc1;have c0:=hb0.cell;have hb1:=HBR.out.later hc1;have c1:=hb1.cell;have f1:=hb1.free)
  gi_wp2_with (refine ⟨trivial,?_⟩;gi_at_call 125;refine (HNU.out _).mono ?_;rintro e w' ⟨rfl,rfl⟩)
  have hB2:Bw w w1:=HB1.out.trans (hc1.mono HB1.out.size);obtain ⟨w2,Ew2⟩:∃ y:World,Hid (w1.alloc (.cells #[O a,O b,O c,O d,O e,O f] 40)=y):=⟨_,zh rfl⟩;rw [Ew2.out];have hbx:aA w2 w1.heap.size #[O a,O b,O c,O d,O e,O f] 40:=by rw [← Ew2.out];exact bq
  have hb1':aA w2 (w.heap.size+1) #[Z I 0] 28:=by rw [← Ew2.out];exact bq
  have hB0:Bw w w2:=by rw [← Ew2.out];exact hB2.alloc hB2.size _
  refine wpIn_rangeFunc_ownH (α:=Fin 3) rfl zo (gf:=194) (lb:=#[ay (some ⟨w1.heap.size,0,none⟩)]) rfl trivial (enters_of Tryz.func194 zk rfl)
   (xZ Fence.wide 2 trivial rfl zo w1.heap.size w.heap.size ⟨⟨a,b⟩,⟨c,d⟩,⟨e,f⟩⟩ w2 hB0.size hbx) belowK_t (belowK_b hB0.size) (Below.refl _ _) (fun _=>rfl)
   (fun pre W=>(Hid (∀ x∈pre,decide (0≤(jQ (ig.get ⟨⟨a,b⟩,⟨c,d⟩,⟨e,f⟩⟩ x.1)).1)=true)∧aA W (w.heap.size+1) #[Z I 0] 28)∧Bw w W)
   (fun c' pre W=>(c'= .ret∧Hid (∃ x:Fin 3,decide (0≤(jQ (ig.get ⟨⟨a,b⟩,⟨c,d⟩,⟨e,f⟩⟩ x.1)).1)=false)∧aA W (w.heap.size+1) #[Z I 2] 28)∧Bw w W)
   (OwnFrom.and (Own.from (fun s A B row hs hg hr=>⟨hs.1,iF hs.2 hg hr⟩) _) (ownFrom_below (aC _) hB0.size))
   (fun c=>OwnFrom.and (Own.from (fun s A B row hs hg hr=>⟨hs.1,hs.2.1,iF hs.2.2 hg hr⟩) _) (ownFrom_below (aC _) hB0.size))
   ⟨⟨zh zi,hb1'⟩,hB0⟩ (fun x a' W=>∃ u15 u16 B,a'={ tmps:=#[Value.agg #[Value.string a,Value.string b,Value.string c,Value.string d,Value.string e,Value.string f],
        Value.pointer (some { block:=w.heap.size,off:=0 }),
        Value.pointer (some { block:=w.heap.size+1,off:=0 }),Value.int I 0,undef,ay (some ⟨B,0,none⟩),
        undef,undef,Value.slice (some { block:=w.heap.size,off:=0 }) 3 3,Value.int I 0,
        Value.int I 0,Value.bool false,undef,
        Value.agg
         #[Value.string a,Value.string b,Value.string c,Value.string d,Value.string e,Value.string f],
        .func (.func 194) #[] #[ay (some ⟨w1.heap.size,0,none⟩)],u15,u16,undef,undef,undef,undef,undef,undef,undef],defers:=[] }∧aA W B #[O (ig.get ⟨⟨a,b⟩,⟨c,d⟩,⟨e,f⟩⟩ x.1).n,O (ig.get ⟨⟨a,b⟩,⟨c,d⟩,⟨e,f⟩⟩ x.1).d] 38) ?hAx ?assign ?body ?done ?stop
  case hAx =>
   intro x a'
   exact Own.from (fun s A B row hs hg hr=>by
    obtain ⟨u1,u2,B',h1,h2⟩:=hs;exact ⟨u1,u2,B',h1,iF h2 hg hr⟩) _
  case assign =>
   intro l pre x W K hI hK;unfold enc Fr.v
   gi_wp2
   exact hK _ _ ((gK aI).from _) ((Below.refl _ W).alloc hI.2.size _) ⟨⟨hI.1.1,hI.1.2.later aI⟩,hI.2.alloc hI.2.size _⟩ ⟨_,_,_,rfl,bq⟩
  case body =>
   rintro l pre x a' W hl hr ⟨⟨hp,hb2⟩,hB⟩ ⟨u1,u2,B',rfl,hbB⟩ _;have hsx:=RG.out x;obtain ⟨y,Ey⟩:∃ y:Fr,Hid (ig.get ⟨⟨a,b⟩,⟨c,d⟩,⟨e,f⟩⟩ x.1=y):=⟨_,zh rfl⟩;rw [Ey.out] at hbB hsx;obtain ⟨s,t⟩:=y;obtain ⟨q,Eq⟩:∃ q:Int × Int,Hid (jQ ⟨s,t⟩=q):=⟨_,zh rfl⟩;rw [Eq.out] at hsx;obtain ⟨q1,q2⟩:=q;unfold dZ.pair Fr.v at hsx
   dsimp only at hsx hbB
   have HSX:=zh hsx;clear hsx;have c3:=hbB.cell
   by_cases hq:q1<0
   ·have HQ:=zh hq;have b1:decide (q1<0)=true:=decide_eq_true hq;clear hq
    gi_wp2_with (refine ⟨trivial,?_⟩;gi_at_call 75;refine (CallsIn.inRound l (callsIn_wide.2 (HSX.out _))).mono ?_;rintro e w1 ⟨rfl,hc1⟩;have hb3:=hb2.later hc1;have c2:=hb3.cell;have f2:=hb3.free)
    refine ⟨(((gK hc1).trans (KeepsOthers.setCell _ _ _)).from _),⟨⟨rfl,zh ⟨x,?_⟩,hb3.set 0 _⟩,(hB.trans (hc1.mono hB.size)).setCell zi _⟩⟩;rw [Ey.out,Eq.out]
    simpa using HQ.out
   ·have HQ:=zh hq;have b1:decide (q1<0)=false:=decide_eq_false hq;clear hq
    gi_wp2_with (refine ⟨trivial,?_⟩;gi_at_call 75;refine (CallsIn.inRound l (callsIn_wide.2 (HSX.out _))).mono ?_;rintro e w1 ⟨rfl,hc1⟩;have hb3:=hb2.later hc1)
    refine ⟨(gK hc1).from _,hc1.mono hB.size,⟨⟨zh fun y hy=>?_,hb3⟩,hB.trans (hc1.mono hB.size)⟩⟩
    rcases List.mem_append.1 hy with h|h
    ·exact hp.out y h
    ·rw [List.mem_singleton] at h;subst h;rw [Ey.out,Eq.out];have:=HQ.out;simp
     omega
  case done =>
   rintro D ys W hD rfl ⟨⟨hp,hb1⟩,hB⟩ hK;have c1:=hb1.cell;have f1:=hb1.free
   have hz:z=0:=by
    rw [← Ez.out,if_pos];rw [dI];intro r hr;have h0:=hp.out ⟨0,by omega⟩ (by unfold upto;rw [List.mem_ofFn];exact ⟨⟨0,by omega⟩,rfl⟩);have h1:=hp.out ⟨1,by omega⟩ (by unfold upto;rw [List.mem_ofFn];exact ⟨⟨1,by omega⟩,rfl⟩);have h2:=hp.out ⟨2,by omega⟩ (by unfold upto;rw [List.mem_ofFn];exact ⟨⟨2,by omega⟩,rfl⟩);simp only [ig.list,dQ,gU,or_false] at hr
    rcases hr with rfl|rfl|rfl
    ·exact h0
    ·exact h1
    ·exact h2
   have HZ:=zh hz;clear hz
   gi_wp2
   have hb2:=hb1.set 0 (Z I 0);have hK':=(KeepsOthers.setCell W ⟨w.heap.size+1,0,none⟩ (Z I 0)).same D _ hK rfl;refine ⟨by simp,.inl ⟨_,_,rfl,run_takeDeferred hK',?_⟩⟩;have hb3:=iF hb2 (grownBy_putObj' _ D (.deferred none)) (fun r e=>by cases e;exact ⟨_,hK',rfl⟩);have nO:=hb3.cell 0;refine ⟨Z I 0,?_,by rw [HZ.out],(hB.setCell (p:=⟨w.heap.size+1,0,none⟩) zi _).trans (belowK_b (w:=w) (aC _) _ D _ _ (by have:=hB0.size;omega) hK' rfl rfl)⟩;simp [results,Tryz.f124,go_sem,nO]
  case stop =>
   rintro D c' pre W hD hpre ⟨⟨rfl,hin,hb1⟩,hB⟩ hK
   have hz:z=2:=by
    rw [← Ez.out,if_neg];intro h;obtain ⟨x,hx⟩:=hin.out;rw [dI] at h;have hx3:x.1=0∨x.1=1∨x.1=2:=by omega
    have:=h (ig.get ⟨⟨a,b⟩,⟨c,d⟩,⟨e,f⟩⟩ x.1) (by rcases hx3 with e|e|e<;>rw [e]<;>simp [ig.list,ig.get]);rw [this] at hx;cases hx
   have HZ:=zh hz;clear hz
   gi_wp2
   refine ⟨by simp,.inl ⟨_,_,rfl,run_takeDeferred hK,?_⟩⟩;have hb3:=iF hb1 (grownBy_putObj' _ D (.deferred none)) (fun r e=>by cases e;exact ⟨_,hK,rfl⟩);have nO:=hb3.cell 0;refine ⟨Z I 2,?_,by rw [HZ.out],hB.trans (belowK_b (w:=w) (aC _) W D _ _ (by have:=hB0.size;omega) hK rfl rfl)⟩;simp [results,Tryz.f124,go_sem,nO]
 ·rw [if_neg zd];clear Tc
  gi_wp2_with (refine ⟨trivial,?_⟩;gi_at_call 193;rw [Uh.out];refine (callsIn_wide.2 (Uf.out _ _ HBA.out)).mono ?_;rintro e w1 ⟨rfl,hc1⟩;have hb0:=HBA.out.later hc1;have c0:=hb0.cell;have hb1:=HBR.out.later hc1;have c1:=hb1.cell;have f1:=hb1.free)
  have c5:=(hb1.set 0 (Z I 20)).cell 0;refine ⟨Z I 20,?_,rfl,(HB1.out.trans (hc1.mono HB1.out.size)).setCell zi _⟩;simp [results,Tryz.f124,go_sem,c5]
attribute [local go_sem] Oper.semAt_some
def uy (t:ig):Int:=if F3 t=0 then (if t.list.all (fun f=>decide ((jQ f).1≠0)) then 0 else 2) else F3 t
theorem Gm (t:ig) (w:World):Calls Tryz.prog 68 #[t.v] w fun e w'=>e= aj (Z I (uy t))∧Bw w w':=by
 have Uf:Hid (∀ W,Calls Tryz.prog 124 #[t.v] W (fun e w'=>e= aj (Z I (F3 t))∧Bw W w')):=zh fun W=>kI t W;have HNU:Hid (∀ w,CallsIn Fence.wide 2 Tryz.prog 125 #[t.v] w fun e w'=>e= aj (.func (.func 194) #[] #[ay (some ⟨w.heap.size,0,none⟩)])∧w'=w.alloc (.cells t.cells 40)):=zh (E9 Fence.wide 2 trivial rfl t);have RG:Hid (∀ x:Fin 3,∀ w,Calls Tryz.prog 75 #[(t.get x.1).v] w (fun e w'=>e= aj (dZ.pair (jQ (t.get x.1)))∧Bw w w')):=zh fun x=>dZ.qy _;unfold uy;generalize Tc:F3 t=ck at *;have hck:ck=0∨ck≠0:=by omega
 obtain ⟨z,Ez⟩:∃ y:Int,Hid ((if t.list.all (fun f=>decide ((jQ f).1≠0)) then 0 else 2)=y):=⟨_,zh rfl⟩;rw [Ez.out];refine (callsIn_wide (n:=3)).1 ?_;refine callsIn_of_wp_marks Tryz.func68 rfl trivial ?_ rfl;simp only [Tryz.ntmps68,List.size_toArray,aV,List.length_nil,Nat.reduceAdd,Nat.reduceSub,Array.replicate_succ,Array.replicate_zero,List.push_toArray,List.append_toArray,List.nil_append,bP];obtain ⟨⟨a,b⟩,⟨c,d⟩,⟨e,f⟩⟩:=t;simp only [ig.v,ig.cells] at *;obtain ⟨wa,Uh⟩:∃ y:World,Hid ((w.alloc (.cells #[O a,O b,O c,O d,O e,O f] 40)).alloc (.cells #[Z I 0] 28)=y):=⟨_,zh rfl⟩;have hba:aA wa w.heap.size #[O a,O b,O c,O d,O e,O f] 40:=by rw [← Uh.out];exact bq
 have hbr:aA wa (w.heap.size+1) #[Z I 0] 28:=by rw [← Uh.out];exact bq
 have hB1:Bw w wa:=by rw [← Uh.out];exact aI
 have HBA:=zh hba;have c00:=hba.cell;rw [← Uh.out] at c00;have HBR:=zh hbr;have HB1:=zh hB1;clear hba hbr hB1
 rcases hck with rfl|hck
 ·rw [if_pos rfl];clear Tc
  gi_wp2_with (refine ⟨trivial,?_⟩;gi_at_call 124;rw [Uh.out];refine (callsIn_wide.2 (Uf.out _)).mono ?_;rintro e w1 ⟨rfl,hc1⟩;have hb0:=HBA.out.later hc1;have c0:=hb0.cell;have hb1:=HBR.out.later hc1;have c1:=hb1.cell;have f1:=hb1.free)
  gi_wp2_with (refine ⟨trivial,?_⟩;gi_at_call 125;refine (HNU.out _).mono ?_;rintro e w' ⟨rfl,rfl⟩)
  have hB2:Bw w w1:=HB1.out.trans (hc1.mono HB1.out.size);obtain ⟨w2,Ew2⟩:∃ y:World,Hid (w1.alloc (.cells #[O a,O b,O c,O d,O e,O f] 40)=y):=⟨_,zh rfl⟩;rw [Ew2.out];have hbx:aA w2 w1.heap.size #[O a,O b,O c,O d,O e,O f] 40:=by rw [← Ew2.out];exact bq
  have hb1':aA w2 (w.heap.size+1) #[Z I 0] 28:=by rw [← Ew2.out];exact bq
  have hB0:Bw w w2:=by rw [← Ew2.out];exact hB2.alloc hB2.size _
  refine wpIn_rangeFunc_ownH (α:=Fin 3) rfl zo (gf:=194) (lb:=#[ay (some ⟨w1.heap.size,0,none⟩)]) rfl trivial (enters_of Tryz.func194 zk rfl)
   (xZ Fence.wide 2 trivial rfl zo w1.heap.size w.heap.size ⟨⟨a,b⟩,⟨c,d⟩,⟨e,f⟩⟩ w2 hB0.size hbx) belowK_t (belowK_b hB0.size) (Below.refl _ _) (fun _=>rfl)
   (fun pre W=>(Hid (∀ x∈pre,decide ((jQ (ig.get ⟨⟨a,b⟩,⟨c,d⟩,⟨e,f⟩⟩ x.1)).1≠0)=true)∧aA W (w.heap.size+1) #[Z I 0] 28)∧Bw w W)
   (fun c' pre W=>(c'= .ret∧Hid (∃ x:Fin 3,decide ((jQ (ig.get ⟨⟨a,b⟩,⟨c,d⟩,⟨e,f⟩⟩ x.1)).1≠0)=false)∧aA W (w.heap.size+1) #[Z I 2] 28)∧Bw w W)
   (OwnFrom.and (Own.from (fun s A B row hs hg hr=>⟨hs.1,iF hs.2 hg hr⟩) _) (ownFrom_below (aC _) hB0.size))
   (fun c=>OwnFrom.and (Own.from (fun s A B row hs hg hr=>⟨hs.1,hs.2.1,iF hs.2.2 hg hr⟩) _) (ownFrom_below (aC _) hB0.size))
   ⟨⟨zh zi,hb1'⟩,hB0⟩ (fun x a' W=>∃ u15 u16 B,a'={ tmps:=#[Value.agg #[Value.string a,Value.string b,Value.string c,Value.string d,Value.string e,Value.string f],
        Value.pointer (some { block:=w.heap.size,off:=0 }),
        Value.pointer (some { block:=w.heap.size+1,off:=0 }),Value.int I 0,undef,ay (some ⟨B,0,none⟩),
        undef,undef,Value.agg #[Value.string a,Value.string b,Value.string c,Value.string d,Value.string e,Value.string f],Value.int I 0,
        Value.int I 0,Value.bool false,undef,
        Value.agg
         #[Value.string a,Value.string b,Value.string c,Value.string d,Value.string e,Value.string f],
        .func (.func 194) #[] #[ay (some ⟨w1.heap.size,0,none⟩)],u15,u16,undef,undef,undef,undef,undef,undef,undef],defers:=[] }∧aA W B #[O (ig.get ⟨⟨a,b⟩,⟨c,d⟩,⟨e,f⟩⟩ x.1).n,O (ig.get ⟨⟨a,b⟩,⟨c,d⟩,⟨e,f⟩⟩ x.1).d] 38) ?hAx ?assign ?body ?done ?stop
  case hAx =>
   intro x a'
   exact Own.from (fun s A B row hs hg hr=>by
    obtain ⟨u1,u2,B',h1,h2⟩:=hs;exact ⟨u1,u2,B',h1,iF h2 hg hr⟩) _
  case assign =>
   intro l pre x W K hI hK;unfold enc Fr.v
   gi_wp2
   exact hK _ _ ((gK aI).from _) ((Below.refl _ W).alloc hI.2.size _) ⟨⟨hI.1.1,hI.1.2.later aI⟩,hI.2.alloc hI.2.size _⟩ ⟨_,_,_,rfl,bq⟩
  case body =>
   rintro l pre x a' W hl hr ⟨⟨hp,hb2⟩,hB⟩ ⟨u1,u2,B',rfl,hbB⟩ _;have hsx:=RG.out x;obtain ⟨y,Ey⟩:∃ y:Fr,Hid (ig.get ⟨⟨a,b⟩,⟨c,d⟩,⟨e,f⟩⟩ x.1=y):=⟨_,zh rfl⟩;rw [Ey.out] at hbB hsx;obtain ⟨s,t⟩:=y;obtain ⟨q,Eq⟩:∃ q:Int × Int,Hid (jQ ⟨s,t⟩=q):=⟨_,zh rfl⟩;rw [Eq.out] at hsx;obtain ⟨q1,q2⟩:=q;unfold dZ.pair Fr.v at hsx
   dsimp only at hsx hbB
   have HSX:=zh hsx;clear hsx;have c3:=hbB.cell
   by_cases hq:q1=0
   ·have HQ:=zh hq;have b1:(q1 == 0)=true:=by simpa using hq
    clear hq
    gi_wp2_with (refine ⟨trivial,?_⟩;gi_at_call 75;refine (CallsIn.inRound l (callsIn_wide.2 (HSX.out _))).mono ?_;rintro e w1 ⟨rfl,hc1⟩;have hb3:=hb2.later hc1;have c2:=hb3.cell;have f2:=hb3.free)
    refine ⟨(((gK hc1).trans (KeepsOthers.setCell _ _ _)).from _),⟨⟨rfl,zh ⟨x,?_⟩,hb3.set 0 _⟩,(hB.trans (hc1.mono hB.size)).setCell zi _⟩⟩;rw [Ey.out,Eq.out]
    simpa using HQ.out
   ·have HQ:=zh hq;have b1:(q1 == 0)=false:=by simpa using hq
    clear hq
    gi_wp2_with (refine ⟨trivial,?_⟩;gi_at_call 75;refine (CallsIn.inRound l (callsIn_wide.2 (HSX.out _))).mono ?_;rintro e w1 ⟨rfl,hc1⟩;have hb3:=hb2.later hc1)
    refine ⟨(gK hc1).from _,hc1.mono hB.size,⟨⟨zh fun y hy=>?_,hb3⟩,hB.trans (hc1.mono hB.size)⟩⟩
    rcases List.mem_append.1 hy with h|h
    ·exact hp.out y h
    ·rw [List.mem_singleton] at h;subst h;rw [Ey.out,Eq.out]
     simpa using HQ.out
  case done =>
   rintro D ys W hD rfl ⟨⟨hp,hb1⟩,hB⟩ hK;have c1:=hb1.cell;have f1:=hb1.free
   have hz:z=0:=by
    rw [← Ez.out,if_pos];rw [dI];intro r hr;have h0:=hp.out ⟨0,by omega⟩ (by unfold upto;rw [List.mem_ofFn];exact ⟨⟨0,by omega⟩,rfl⟩);have h1:=hp.out ⟨1,by omega⟩ (by unfold upto;rw [List.mem_ofFn];exact ⟨⟨1,by omega⟩,rfl⟩);have h2:=hp.out ⟨2,by omega⟩ (by unfold upto;rw [List.mem_ofFn];exact ⟨⟨2,by omega⟩,rfl⟩);simp only [ig.list,dQ,gU,or_false] at hr
    rcases hr with rfl|rfl|rfl
    ·exact h0
    ·exact h1
    ·exact h2
   have HZ:=zh hz;clear hz
   gi_wp2
   have hb2:=hb1.set 0 (Z I 0);have hK':=(KeepsOthers.setCell W ⟨w.heap.size+1,0,none⟩ (Z I 0)).same D _ hK rfl;refine ⟨by simp,.inl ⟨_,_,rfl,run_takeDeferred hK',?_⟩⟩;have hb3:=iF hb2 (grownBy_putObj' _ D (.deferred none)) (fun r e=>by cases e;exact ⟨_,hK',rfl⟩);have nO:=hb3.cell 0;refine ⟨Z I 0,?_,by rw [HZ.out],(hB.setCell (p:=⟨w.heap.size+1,0,none⟩) zi _).trans (belowK_b (w:=w) (aC _) _ D _ _ (by have:=hB0.size;omega) hK' rfl rfl)⟩;simp [results,Tryz.f68,go_sem,nO]
  case stop =>
   rintro D c' pre W hD hpre ⟨⟨rfl,hin,hb1⟩,hB⟩ hK
   have hz:z=2:=by
    rw [← Ez.out,if_neg];intro h;obtain ⟨x,hx⟩:=hin.out;rw [dI] at h;have hx3:x.1=0∨x.1=1∨x.1=2:=by omega
    have:=h (ig.get ⟨⟨a,b⟩,⟨c,d⟩,⟨e,f⟩⟩ x.1) (by rcases hx3 with e|e|e<;>rw [e]<;>simp [ig.list,ig.get]);rw [this] at hx;cases hx
   have HZ:=zh hz;clear hz
   gi_wp2
   refine ⟨by simp,.inl ⟨_,_,rfl,run_takeDeferred hK,?_⟩⟩;have hb3:=iF hb1 (grownBy_putObj' _ D (.deferred none)) (fun r e=>by cases e;exact ⟨_,hK,rfl⟩);have nO:=hb3.cell 0;refine ⟨Z I 2,?_,by rw [HZ.out],hB.trans (belowK_b (w:=w) (aC _) W D _ _ (by have:=hB0.size;omega) hK rfl rfl)⟩;simp [results,Tryz.f68,go_sem,nO]
 ·rw [if_neg hck];have b5:(ck != 0)=true:=by simpa using hck
  clear Tc
  gi_wp2_with (refine ⟨trivial,?_⟩;gi_at_call 124;rw [Uh.out];refine (callsIn_wide.2 (Uf.out _)).mono ?_;rintro e w1 ⟨rfl,hc1⟩;have hb0:=HBA.out.later hc1;have c0:=hb0.cell;have hb1:=HBR.out.later hc1;have c1:=hb1.cell;have f1:=hb1.free)
  have c5:=(hb1.set 0 (Z I ck)).cell 0;refine ⟨Z I ck,?_,rfl,(HB1.out.trans (hc1.mono HB1.out.size)).setCell zi _⟩;simp [results,Tryz.f68,go_sem,c5]
end Go.Proofs.light
namespace Go.Proofs.adapt
open Go Go.RowKit Go.SW Go.Num Go.Mem Go.Proofs Go.Dec Go.fG
def thrown (er:Int):Ending:=.panicked [{ v:=.iface 263 (aB #[Z I er]),recovered:=false }]
theorem kN (w:World):Calls Tryz.prog 196 #[Z I 0] w (fun e w'=>e= aj (aD #[])∧w'=w):=by
 go_enter Tryz.func196,Tryz.ntmps196
 go_wp2_with fail
 first|go_end0|refine bodyPost_ret (results_none rfl _ _ _) rfl ?_
 exact ⟨rfl,rfl⟩
theorem iO (er:Int) (h:er≠0) (w:World):Calls Tryz.prog 196 #[Z I er] w (fun e w'=>e=thrown er∧w'=w):=by
 have b1:(er != 0)=true:=by simp [h]
 clear h;go_enter Tryz.func196,Tryz.ntmps196
 go_wp2_with fail
 exact ⟨rfl,rfl,rfl⟩
def eH (w:World) (er:Int) (Rv:Value→World→Prop) (e:Ending) (w':World):Prop :=
 Bw w w'∧((er=0∧∃ v,e= aj v∧Rv v w')∨(er≠0∧e=thrown er))
theorem eH.no {w w':World} {er:Int} {Rv:Value→World→Prop} (hb:Bw w w') (h:er≠0):eH w er Rv (thrown er) w':=⟨hb,.inr ⟨h,rfl⟩⟩
theorem eH.yes {w w':World} {Rv:Value→World→Prop} {v:Value} (hb:Bw w w') (h:Rv v w'):eH w 0 Rv (aj v) w':=⟨hb,.inl ⟨rfl,_,rfl,h⟩⟩
theorem tF (a:Fr) (w:World):Calls Tryz.prog 128 #[a.v,Z I 0] w (fun e w'=>e= aj a.v∧Bw w w'):=by
 obtain ⟨s,t⟩:=a;unfold Fr.v;go_enter Tryz.func128,Tryz.ntmps128
 go_wp2_with fail
 refine (kN _).mono ?_;rintro e w1 ⟨rfl,rfl⟩;go_wp2_with fail
 refine gG rfl rfl bq Tryz.underlying38 rfl zk ?_;exact ⟨rfl,aI⟩
theorem xB (a:Fr) (er:Int) (h:er≠0) (w:World):Calls Tryz.prog 128 #[a.v,Z I er] w (fun e w'=>e=thrown er∧Bw w w'):=by
 obtain ⟨s,t⟩:=a;unfold Fr.v;have H:=zh h;clear h;go_enter Tryz.func128,Tryz.ntmps128
 go_wp2_with fail
 refine (iO er H.out _).mono ?_;rintro e w1 ⟨rfl,rfl⟩;exact ⟨rfl,rfl,aI⟩
theorem VD (a:Option Addr) (n c:Nat) (w:World):Calls Tryz.prog 216 #[ah a n c,Z I 0] w (fun e w'=>e= aj (ah a n c)∧w'=w):=by
 go_enter Tryz.func216,Tryz.ntmps216
 go_wp2_with fail
 refine (kN _).mono ?_;rintro e w1 ⟨rfl,rfl⟩;go_wp2_with fail
 go_ret
 exact ⟨rfl,rfl⟩
theorem SK (a:Option Addr) (n c:Nat) (er:Int) (h:er≠0) (w:World):Calls Tryz.prog 216 #[ah a n c,Z I er] w (fun e w'=>e=thrown er∧w'=w):=by
 have H:=zh h;clear h;go_enter Tryz.func216,Tryz.ntmps216
 go_wp2_with fail
 refine (iO er H.out _).mono ?_;rintro e w1 ⟨rfl,rfl⟩;exact ⟨rfl,rfl,rfl⟩
theorem oZ (z:Int) (w:World):Calls Tryz.prog 217 #[Z I z,Z I 0] w (fun e w'=>e= aj (Z I z)∧w'=w):=by
 go_enter Tryz.func217,Tryz.ntmps217
 go_wp2_with fail
 refine (kN _).mono ?_;rintro e w1 ⟨rfl,rfl⟩;go_wp2_with fail
 go_ret
 exact ⟨rfl,rfl⟩
theorem VE (a:Option Addr) (n c:Nat) (w:World):Calls Tryz.prog 275 #[ah a n c,Z I 0] w (fun e w'=>e= aj (ah a n c)∧w'=w):=by
 go_enter Tryz.func275,Tryz.ntmps275
 go_wp2_with fail
 refine (kN _).mono ?_;rintro e w1 ⟨rfl,rfl⟩;go_wp2_with fail
 go_ret
 exact ⟨rfl,rfl⟩
theorem SL (a:Option Addr) (n c:Nat) (er:Int) (h:er≠0) (w:World):Calls Tryz.prog 275 #[ah a n c,Z I er] w (fun e w'=>e=thrown er∧w'=w):=by
 have H:=zh h;clear h;go_enter Tryz.func275,Tryz.ntmps275
 go_wp2_with fail
 refine (iO er H.out _).mono ?_;rintro e w1 ⟨rfl,rfl⟩;exact ⟨rfl,rfl,rfl⟩
theorem Ja (er:Int) (w:World):(Instr.typeAssert (.iface 263 (aB #[Z I er])) 20 263 true).run Tryz.prog w= .ok (aD #[aB #[Z I er],ak true]) w:=by kernel_rfl
theorem pG {w:World} {b:Nat} {cs cs':Array Value} {T:TypeId} (h:aA w b cs T) (e:cs=cs'):aA w b cs' T:=e ▸ h
def caught (er:Int) (rec:Bool):FrameMode:=.panicking [{ v:=.iface 263 (aB #[Z I er]),recovered:=rec }]
theorem Nb (p q:Addr) (w:World) :
  CallsD Tryz.prog 195 #[ay (some p),ay (some q)] .returning w fun e u' w'=>e= aj (aD #[])∧u'= .returning∧w'=w:=by
 refine callsD_of_wpS Tryz.func195 rfl fun c₀ cs hu=>?_;simp only [Tryz.ntmps195,List.size_toArray,aV,List.length_nil,Nat.reduceAdd,Nat.reduceSub,Array.replicate_succ,Array.replicate_zero,List.push_toArray,List.append_toArray,List.nil_append,bP];refine wpS_seq (wpS_region ?_);generalize hQ:Exit.thenS _ _=Q;simp [wpOpsS,go_sem,recoverD,hu]
 rw [← hQ];clear hQ;refine wpS_of_wp ?_;go_wp2_with fail
 cases c₀
 simp_all [bodyPostS,results,Tryz.results195]
theorem ax4 (b c:Nat) (v:Value) (z er:Int) (w:World) (hb:aA w b #[v] 126) (hc:aA w c #[Z I z] 28) :
  CallsD Tryz.prog 195 #[ay (some ⟨b,0,none⟩),ay (some ⟨c,0,none⟩)] (caught er false) w fun e u' w' =>
   e= aj (aD #[])∧u'=caught er true∧aA w' b #[ah none 0 0] 126∧aA w' c #[Z I er] 28∧∀ w0:World,w0.heap.size≤b→w0.heap.size≤c→Bw w0 w→Bw w0 w':=by
 unfold caught;refine callsD_of_wpS Tryz.func195 rfl fun c₀ cs hu=>?_;simp only [Tryz.ntmps195,List.size_toArray,aV,List.length_nil,Nat.reduceAdd,Nat.reduceSub,Array.replicate_succ,Array.replicate_zero,List.push_toArray,List.append_toArray,List.nil_append,bP];refine wpS_seq (wpS_region ?_);generalize hQ:Exit.thenS _ _=Q;simp [wpOpsS,go_sem,recoverD,hu]
 rw [← hQ];clear hQ;refine wpS_of_wp ?_;have cb:=hb.cell;have fb:=hb.free;have cc:=hc.cell;have fc:=hc.free;have lb:=hb.lt;have lc:=hc.lt;have hne:b≠c:=hb.ne hc zd;have hne2:c≠b:=fun e=>hne e.symm;have hta:=Ja er;obtain ⟨R,HR⟩:∃ R:Ending→FrameMode→World→Prop,Hid (R=fun e u' w'=>e= aj (aD #[])∧u'= .panicking [{ v:=.iface 263 (aB #[Z I er]),recovered:=true }]∧aA w' b #[ah none 0 0] 126∧aA w' c #[Z I er] 28∧∀ w0:World,w0.heap.size≤b→w0.heap.size≤c→Bw w0 w→Bw w0 w'):=⟨_,zh rfl⟩
 rw [← HR.out];go_wp2_with fail
 simp only [bodyPostS];refine ⟨trivial,_,rfl,_,results_none rfl _ _ _,?_⟩;rw [HR.out];refine ⟨rfl,rfl,?_,?_,fun w0 h1 h2 h3=>?_⟩
 ·apply pG
  ·exact bq
  ·simp only [List.setIfInBounds_toArray,aM,aN]
 ·apply pG
  ·exact bq
  ·simp only [List.setIfInBounds_toArray,aM,aN]
 ·exact aI
theorem Nc (p q:Addr) (w:World) :
  CallsD Tryz.prog 215 #[ay (some p),ay (some q)] .returning w fun e u' w'=>e= aj (aD #[])∧u'= .returning∧w'=w:=by
 refine callsD_of_wpS Tryz.func215 rfl fun c₀ cs hu=>?_;simp only [Tryz.ntmps215,List.size_toArray,aV,List.length_nil,Nat.reduceAdd,Nat.reduceSub,Array.replicate_succ,Array.replicate_zero,List.push_toArray,List.append_toArray,List.nil_append,bP];refine wpS_seq (wpS_region ?_);generalize hQ:Exit.thenS _ _=Q;simp [wpOpsS,go_sem,recoverD,hu]
 rw [← hQ];clear hQ;refine wpS_of_wp ?_;go_wp2_with fail
 cases c₀
 simp_all [bodyPostS,results,Tryz.results215]
theorem ax5 (b c:Nat) (s1 s2 s3 s4 s5 s6:ByteArray) (z er:Int) (w:World) (hb:aA w b #[O s1,O s2,O s3,O s4,O s5,O s6] 39) (hc:aA w c #[Z I z] 28) :
  CallsD Tryz.prog 215 #[ay (some ⟨b,0,none⟩),ay (some ⟨c,0,none⟩)] (caught er false) w fun e u' w' =>
   e= aj (aD #[])∧u'=caught er true∧aA w' b #[O ⟨#[]⟩,O ⟨#[]⟩,O ⟨#[]⟩,O ⟨#[]⟩,O ⟨#[]⟩,O ⟨#[]⟩] 39∧aA w' c #[Z I er] 28∧∀ w0:World,w0.heap.size≤b→w0.heap.size≤c→Bw w0 w→Bw w0 w':=by
 unfold caught;refine callsD_of_wpS Tryz.func215 rfl fun c₀ cs hu=>?_;simp only [Tryz.ntmps215,List.size_toArray,aV,List.length_nil,Nat.reduceAdd,Nat.reduceSub,Array.replicate_succ,Array.replicate_zero,List.push_toArray,List.append_toArray,List.nil_append,bP];refine wpS_seq (wpS_region ?_);generalize hQ:Exit.thenS _ _=Q;simp [wpOpsS,go_sem,recoverD,hu]
 rw [← hQ];clear hQ;refine wpS_of_wp ?_;have cb:=hb.cell;have fb:=hb.free;have cc:=hc.cell;have fc:=hc.free;have lb:=hb.lt;have lc:=hc.lt;have hne:b≠c:=hb.ne hc zd;have hne2:c≠b:=fun e=>hne e.symm;have hta:=Ja er;obtain ⟨R,HR⟩:∃ R:Ending→FrameMode→World→Prop,Hid (R=fun e u' w'=>e= aj (aD #[])∧u'= .panicking [{ v:=.iface 263 (aB #[Z I er]),recovered:=true }]∧aA w' b #[O ⟨#[]⟩,O ⟨#[]⟩,O ⟨#[]⟩,O ⟨#[]⟩,O ⟨#[]⟩,O ⟨#[]⟩] 39∧aA w' c #[Z I er] 28∧∀ w0:World,w0.heap.size≤b→w0.heap.size≤c→Bw w0 w→Bw w0 w'):=⟨_,zh rfl⟩
 rw [← HR.out];go_wp2_with fail
 simp only [bodyPostS];refine ⟨trivial,_,rfl,_,results_none rfl _ _ _,?_⟩;rw [HR.out];refine ⟨rfl,rfl,?_,?_,fun w0 h1 h2 h3=>?_⟩
 ·apply pG
  ·exact bq
  ·simp only [List.setIfInBounds_toArray,aM,aN]
 ·apply pG
  ·exact bq
  ·simp only [List.setIfInBounds_toArray,aM,aN]
 ·exact aI
theorem fA {P:Program} {fn:Func} {w:World} {tmps:Array Value} {p q:Tmp} {ty AP:TypeId} {g g2:Nat} {x y:Value} (h:fn.results=#[.cell p ty,.cell q AP])
  (hp:tmps.getD p undef= ay (some ⟨g,0,none⟩)) (hq:tmps.getD q undef= ay (some ⟨g2,0,none⟩)) (h1:(loadVar ty ⟨g,0,none⟩).run P w= .ok x w) (h2:(loadVar AP ⟨g2,0,none⟩).run P w= .ok y w) :
  (results fn tmps).run P w= .ok (aD #[x,y]) w:=by
 have hp':tmps[p]?.getD undef= ay (some ⟨g,0,none⟩):=by simpa using hp
 have hq':tmps[q]?.getD undef= ay (some ⟨g2,0,none⟩):=by simpa using hq
 simp [results,h,hp',hq',asAddr,h1,h2]
theorem jF {w:World} {c:Nat} {z:Int} (h:aA w c #[Z I z] 28):(loadVar 28 ⟨c,0,none⟩).run Tryz.prog w= .ok (Z I z) w:=by
 have hc:=h.cell 0;simp [go_sem,hc]
theorem Mj {w:World} {b:Nat} {a:Option Addr} {n c:Nat} (h:aA w b #[ah a n c] 126):(loadVar 126 ⟨b,0,none⟩).run Tryz.prog w= .ok (ah a n c) w:=by
 have hc:=h.cell 0;simp [go_sem,hc]
theorem VW {w:World} {b:Nat} {s1 s2 s3 s4 s5 s6:ByteArray} (h:aA w b #[O s1,O s2,O s3,O s4,O s5,O s6] 39):(loadVar 39 ⟨b,0,none⟩).run Tryz.prog w= .ok (aB #[O s1,O s2,O s3,O s4,O s5,O s6]) w :=
 run_loadVar_row w b 39 39 _ (0,0) _ h Tryz.underlying39 rfl zk
theorem nQ.kept {l:List TypeId} {w w':World} {v:Value} {m:List (List Fr)} (h:nQ w v m) (k:Keep l w w') (h1:130∉l) (h2:38∉l):nQ w' v m:=by
 obtain ⟨rs,g1,g2,g3⟩:=h;exact ⟨rs,fG.Row.kept g1 k h1,g2,fun i h h'=>vC.kept (g3 i h h') k h2⟩
theorem Nk (f:FuncId) (caps:Array Value) (er:Int) (m:List (List Fr)) (w:World) (HC:∀ W,Bw w W→Calls Tryz.prog f caps W (eH W er (fun v W'=>nQ W' v m)))
  (hf:∀ args W,(callFunc f args).run Tryz.prog W= .ok (.enter f args) W) :
  Calls Tryz.prog 126 #[.func (.func f) #[] caps] w (lK w er m):=by
 have Q0:∀ (fn:Fn) (first cap:Array Value) (w:World),(Instr.makeFunc fn first cap).run Tryz.prog w= .ok (.func fn first cap) w:=fun _ _ _ _=>rfl;have Qf:=zh HC;clear HC;have hb0:Below w.heap.size w ((w.alloc (.cells #[ah none 0 0] 126)).alloc (.cells #[Z I 0] 28)):=aI;obtain ⟨w0,rV⟩:∃ y,(w.alloc (.cells #[ah none 0 0] 126)).alloc (.cells #[Z I 0] 28)=y:=⟨_,rfl⟩;have hx1:aA w0 w.heap.size #[ah none 0 0] 126:=by rw [← rV];exact bq
 have hx2:aA w0 (w.heap.size+1) #[Z I 0] 28:=by rw [← rV];exact bq
 rw [rV] at hb0
 go_enter_defers Tryz.func126,Tryz.ntmps126
 go_wp2_with fail
 refine (Qf.out _ hb0).mono ?_;rintro e w1 ⟨hb1,⟨rfl,v,rfl,hv⟩|⟨h,rfl⟩⟩
 ·obtain ⟨rs,hR,hl,hF⟩:=id hv;obtain ⟨a,cap,rfl, -⟩:=hR;replace hx1:=hx1.later hb1;replace hx2:=hx2.later hb1;have c1:=hx1.cell;have f1:=hx1.free;have c2:=hx2.cell;have f2:=hx2.free;have HV:=zh hv;have hx3:aA ((w1.setCell ⟨w.heap.size,0,none⟩ (ah a rs.length cap)).setCell ⟨w.heap.size+1,0,none⟩ (Z I 0)) w.heap.size #[ah a rs.length cap] 126:=(hx1.set 0 (ah a rs.length cap)).setOther (a:=⟨w.heap.size+1,0,none⟩) (Z I 0) zi;have hx4:aA ((w1.setCell ⟨w.heap.size,0,none⟩ (ah a rs.length cap)).setCell ⟨w.heap.size+1,0,none⟩ (Z I 0)) (w.heap.size+1) #[Z I 0] 28:=(hx2.setOther (a:=⟨w.heap.size,0,none⟩) (ah a rs.length cap) zi).set 0 (Z I 0);have hv2:=nQ.kept hv ((Keep.setCell (o:=0) (u:=ah a rs.length cap) hx1.GH).mono (m:=[126,28]) zi) zd zd
  have hv3:=nQ.kept hv2 ((Keep.setCell (o:=0) (u:=Z I 0) (hx2.GH.setCell (a:=⟨w.heap.size,0,none⟩) (u:=ah a rs.length cap))).mono (m:=[126,28]) zi) zd zd;have HV:=zh hv3;have hbw:=((Bt hb0 hb1).setCell (p:=⟨w.heap.size,0,none⟩) (aC _) (ah a rs.length cap)).setCell (p:=⟨w.heap.size+1,0,none⟩) zi (Z I 0);rw [hl] at hx3 hx4 HV hbw;clear hF hv hv2 hv3;go_wp2_with fail
  refine leaves_cons (f:=195) (args:=#[ay (some ⟨w.heap.size,0,none⟩),ay (some ⟨w.heap.size+1,0,none⟩)]) zi (by simp [go_sem]) ?_;refine (Nb _ _ _).mono ?_;rintro e u' w'' ⟨rfl,rfl,rfl⟩;exact ⟨_,fA rfl rfl rfl (Mj hx3) (jF hx4),lK.yes hbw HV.out⟩
 ·replace hx1:=hx1.later hb1;replace hx2:=hx2.later hb1
  change bodyPostD _ _ _ (Exit.panic [{ v:=.iface 263 (aB #[Z I er]),recovered:=false }]) _ _
  refine leaves_cons (f:=195) (args:=#[ay (some ⟨w.heap.size,0,none⟩),ay (some ⟨w.heap.size+1,0,none⟩)]) zi (by simp [go_sem]) ?_;refine (ax4 w.heap.size (w.heap.size+1) _ _ er _ hx1 hx2).mono ?_;rintro e u' w'' ⟨rfl,rfl,hy1,hy2,hbb⟩;exact ⟨_,fA rfl rfl rfl (Mj hy1) (jF hy2),lK.no (hbb w (aC _) zo (Bt hb0 hb1)) h⟩
def VA:light.ig:=⟨Fr.no,Fr.no,Fr.no⟩
def xJ (w:World) (er:Int) (t:light.ig) (e:Ending) (w':World):Prop:=Bw w w'∧e= aj (aD #[(if er=0 then t else VA).v,Z I er])
theorem Nl (f:FuncId) (caps:Array Value) (er:Int) (t:light.ig) (w:World) (HC:∀ W,Bw w W→Calls Tryz.prog f caps W (eH W er (fun v W'=>v=t.v)))
  (hf:∀ args W,(callFunc f args).run Tryz.prog W= .ok (.enter f args) W) :
  Calls Tryz.prog 142 #[.func (.func f) #[] caps] w (xJ w er t):=by
 have Q0:∀ (fn:Fn) (first cap:Array Value) (w:World),(Instr.makeFunc fn first cap).run Tryz.prog w= .ok (.func fn first cap) w:=fun _ _ _ _=>rfl;obtain ⟨⟨a1,a2⟩,⟨a3,a4⟩,⟨a5,a6⟩⟩:=t;have Qf:=zh HC;clear HC;have hb0:Below w.heap.size w ((w.alloc (.cells #[O ⟨#[]⟩,O ⟨#[]⟩,O ⟨#[]⟩,O ⟨#[]⟩,O ⟨#[]⟩,O ⟨#[]⟩] 39)).alloc (.cells #[Z I 0] 28)):=aI;obtain ⟨w0,rV⟩:∃ y,(w.alloc (.cells #[O ⟨#[]⟩,O ⟨#[]⟩,O ⟨#[]⟩,O ⟨#[]⟩,O ⟨#[]⟩,O ⟨#[]⟩] 39)).alloc (.cells #[Z I 0] 28)=y:=⟨_,rfl⟩;have hx1:aA w0 w.heap.size #[O ⟨#[]⟩,O ⟨#[]⟩,O ⟨#[]⟩,O ⟨#[]⟩,O ⟨#[]⟩,O ⟨#[]⟩] 39:=by rw [← rV];exact bq
 have hx2:aA w0 (w.heap.size+1) #[Z I 0] 28:=by rw [← rV];exact bq
 rw [rV] at hb0
 go_enter_defers Tryz.func142,Tryz.ntmps142
 go_wp2_with fail
 refine (Qf.out _ hb0).mono ?_;rintro e w1 ⟨hb1,⟨rfl,v,rfl,rfl⟩|⟨h,rfl⟩⟩
 ·replace hx1:=hx1.later hb1;replace hx2:=hx2.later hb1;have c1:=hx1.cell;have f1:=hx1.free;have c2:=hx2.cell;have f2:=hx2.free;have hne:w.heap.size≠w.heap.size+1:=by omega
  have hx3:aA (((((((w1.setCell ⟨w.heap.size,0,none⟩ (O a1)).setCell ⟨w.heap.size,1,none⟩ (O a2)).setCell ⟨w.heap.size,2,none⟩ (O a3)).setCell ⟨w.heap.size,3,none⟩ (O a4)).setCell ⟨w.heap.size,4,none⟩ (O a5)).setCell ⟨w.heap.size,5,none⟩ (O a6)).setCell ⟨w.heap.size+1,0,none⟩ (Z I 0)) w.heap.size #[O a1,O a2,O a3,O a4,O a5,O a6] 39:=((((((hx1.set 0 _).set 1 _).set 2 _).set 3 _).set 4 _).set 5 _).setOther _ hne
  have hx4:aA (((((((w1.setCell ⟨w.heap.size,0,none⟩ (O a1)).setCell ⟨w.heap.size,1,none⟩ (O a2)).setCell ⟨w.heap.size,2,none⟩ (O a3)).setCell ⟨w.heap.size,3,none⟩ (O a4)).setCell ⟨w.heap.size,4,none⟩ (O a5)).setCell ⟨w.heap.size,5,none⟩ (O a6)).setCell ⟨w.heap.size+1,0,none⟩ (Z I 0)) (w.heap.size+1) #[Z I 0] 28:=((((((hx2.setOther _ hne.symm).setOther _ hne.symm).setOther _ hne.symm).setOther _ hne.symm).setOther _ hne.symm).setOther _ hne.symm).set 0 _
  have hbw:Below w.heap.size w (((((((w1.setCell ⟨w.heap.size,0,none⟩ (O a1)).setCell ⟨w.heap.size,1,none⟩ (O a2)).setCell ⟨w.heap.size,2,none⟩ (O a3)).setCell ⟨w.heap.size,3,none⟩ (O a4)).setCell ⟨w.heap.size,4,none⟩ (O a5)).setCell ⟨w.heap.size,5,none⟩ (O a6)).setCell ⟨w.heap.size+1,0,none⟩ (Z I 0)):=by
   have:=Bt hb0 hb1;exact aI
  have Od:=zh hx3;have HX4:=zh hx4;have HBW:=zh hbw;clear hx3 hx4 hbw rV hx1 hx2 hb0 hb1;unfold light.ig.v light.ig.cells;go_wp2_with fail
  refine leaves_cons (f:=215) (args:=#[ay (some ⟨w.heap.size,0,none⟩),ay (some ⟨w.heap.size+1,0,none⟩)]) zi (by simp [go_sem]) ?_;refine (Nc _ _ _).mono ?_;rintro e u' w'' ⟨rfl,rfl,rfl⟩;exact ⟨_,fA rfl rfl rfl (VW Od.out) (jF HX4.out),HBW.out,rfl⟩
 ·replace hx1:=hx1.later hb1;replace hx2:=hx2.later hb1
  change bodyPostD _ _ _ (Exit.panic [{ v:=.iface 263 (aB #[Z I er]),recovered:=false }]) _ _
  refine leaves_cons (f:=215) (args:=#[ay (some ⟨w.heap.size,0,none⟩),ay (some ⟨w.heap.size+1,0,none⟩)]) zi (by simp [go_sem]) ?_;refine (ax5 w.heap.size (w.heap.size+1) _ _ _ _ _ _ _ er _ hx1 hx2).mono ?_;rintro e u' w'' ⟨rfl,rfl,hy1,hy2,hbb⟩;exact ⟨_,fA rfl rfl rfl (VW hy1) (jF hy2),hbb w (aC _) zo (Bt hb0 hb1),by rw [if_neg h];rfl⟩
def oH:List Int:=[100000,0,0,0,100000,0,0,0,100000,40024,70760, -8081, -22630,116532,4570,0,0,91822,89510,26640, -16140, -75020,171350,3670,3890, -6850,102960,89500,26640, -16140, -75020,171350,3670,3890, -6850,102960]
def kX (w : World) : Prop := Lib.TabIs Tryz.prog w "verdigris/adapt.cones" .i64 oH
theorem kX.later {w w':World} (h:kX w) (hb:Bw w w'):kX w':=Lib.tabBelow_of_tabIs h w' hb
theorem kX.cell {w:World} (h:kX w) {k:Nat} (hk:k<36):w.cell? ⟨1,k,none⟩=some (.int .i64 (oH.getD k 0)):=by
 exact Lib.TabIs.cell h zk k hk
def jL (m i j:Nat):Rat:=((oH.getD (m*9+i*3+j) 0:Int):Rat) / ((100000:Int):Rat)
theorem MW:∀ m,m<4→∀ i,i<3→∀ j,j<3→jk (jL m i j)=true:=by decide+kernel
def og (m:Nat):matrix.RM:=(dB 3).map fun i=>(dB 3).map (jL m i)
theorem Am:∀ k,k<36→ -1000000≤oH.getD k 0∧oH.getD k 0≤1000000:=by decide+kernel
theorem Xi (bk m:Nat) (hm:m<4) (w:World) (hk:aA w bk #[Z I ((m:Int)+1)] 3) (ht:ko.Pow w) (hc:kX w) :
  Calls Tryz.prog 127 #[ay (some ⟨bk,0,none⟩)] w (eH w 0 (fun v w'=>nQ w' v (og m).fr)):=by
 obtain ⟨csm,aH5,hmk⟩:=matrix.VK 3 zo;obtain ⟨csf,aH6,Q0⟩:=matrix.VL 3 zo;replace hmk:∀ W:World,(Instr.makeSlice 126 (Z I 3) (Z I 3)).run Tryz.prog W= .ok (ah (some ⟨W.heap.size,0,none⟩) 3 3) (W.alloc (.cells csm 130)):=hmk;replace Q0:∀ W:World,(Instr.makeSlice 130 (Z I 3) (Z I 3)).run Tryz.prog W= .ok (ah (some ⟨W.heap.size,0,none⟩) 3 3) (W.alloc (.cells csf 38)):=Q0;have HCS:=zh aH5;have HCF:=zh aH6;have HT:=zh ht;have HC:=zh hc;have HK:=zh hk;have lk:=hk.lt
 have l0:1<w.heap.size:=by
  have:=hc.cell (k:=0) zo
  rcases aH 1 w.heap.size with h|h
  ·exact h
  ·unfold World.cell? at this;simp only [bQ h] at this;cases this
 obtain ⟨E,EE⟩:∃ E:Nat→Nat→Rat,Hid (jL m=E):=⟨_,zh rfl⟩;clear aH5 aH6 ht hc hk;have hM0:=aA.new w csm 130;have HM:=zh (matrix.om.an7 (f:=fun i=>((dB 3).map (E i)).map Fr.of) hM0 HCS.out);have h0b:Below w.heap.size w (w.alloc (.cells csm 130)):=aI;clear hM0;go_enter Tryz.func127,Tryz.ntmps127
 go_wp2_with fail
 go_loopw [6] (fun iv wr=>∃ r:Nat,iv= Z I (r:Int)∧r≤3∧Hid (om wr w.heap.size 3 r (fun i=>((dB 3).map (E i)).map Fr.of))∧Bw w wr) (fun iv _=>3 - (intOf iv).toNat)
 case atStart=>exact ⟨0,rfl,by omega,HM,h0b⟩
 case round =>
  clear HM h0b;obtain ⟨r,rfl,hr,HM,hb⟩:=hrel;obtain ⟨wo,hwo⟩:∃ y,y=wr:=⟨_,rfl⟩;subst hwo;have lM:=HM.out.lt
  rcases aH r 3 with hlt|hge
  ·have hlt2:(r:Int)<3:=by omega
   obtain ⟨⟨y1,cy1⟩,fy⟩:=HM.out.cell hlt;obtain ⟨ay9,bM,hsz, -⟩:=HM.out;have HBM:=zh bM;have hrs:r<ay9.size:=by omega
   clear bM hsz;go_wp2_with fail
   clear cy1 fy;have hGM:wo.heap.size≠w.heap.size:=by omega
   have hMG:w.heap.size≠wo.heap.size:=by omega
   have hBn:aA ((wo.setCell ⟨w.heap.size,r,none⟩ (ah (some ⟨wo.heap.size,0,none⟩) 3 3)).alloc (.cells csf 38 (0,0))) wo.heap.size csf 38:=aA.yO zi;have HF:=zh (show Fill _ wo.heap.size 38 3 0 (KW fun i=>Fr.of (E r i)) from ⟨csf,hBn,HCF.out,fun i hi=>by omega⟩);have HB:=zh ((HBM.out.set r (ah (some ⟨wo.heap.size,0,none⟩) 3 3)).alloc (.cells csf 38 (0,0)));have HN:=zh (((sM.refl wo w.heap.size).set r (ah (some ⟨wo.heap.size,0,none⟩) 3 3)).below (w':=(wo.setCell ⟨w.heap.size,r,none⟩ (ah (some ⟨wo.heap.size,0,none⟩) 3 3)).alloc (.cells csf 38 (0,0))) aI);clear hBn
   go_loopw [13] (fun iv wr=>∃ c:Nat,iv= Z I (c:Int)∧c≤3∧Hid (Fill wr wo.heap.size 38 3 c (KW fun i=>Fr.of (E r i)))∧Hid (aA wr w.heap.size (ay9.setIfInBounds r (ah (some ⟨wo.heap.size,0,none⟩) 3 3)) 130)∧Hid (sM wo wr w.heap.size)) (fun iv _=>3 - (intOf iv).toNat)
   case atStart=>exact ⟨0,rfl,by omega,HF,HB,HN⟩
   case round =>
    clear HF HB HN;obtain ⟨c,rfl,hcn,HF,HB,HN⟩:=hrel
    rcases aH c 3 with hcl|hcl
    ·have aV9:(c:Int)<3:=by omega
     have hbv:Bw w wr:=HN.out.toBelow hb (aC _);have aG7:m*9+r*3+c<36:=by omega
     have cg:=(HC.out.later hbv).cell aG7;have ck:=(HK.out.later hbv).cell;have lkr:=aP lk hbv.size;have l0r:=aP l0 hbv.size;have cM:=HB.out.cell r;rw [Array.getElem?_setIfInBounds,if_pos rfl,if_pos hrs] at cM;have lMr:=HB.out.lt;have hok:=MW m hm r hlt c hcl;have hqe:jL m r c=E r c:=by rw [EE.out]
     have ZK:jL m r c=((oH.getD (m*9+r*3+c) 0:Int):Rat) / ((100000:Int):Rat):=rfl;have hsm:=Am _ aG7;rw [hqe] at hok ZK;generalize oH.getD (m*9+r*3+c) 0=z at *;obtain ⟨q,EQ⟩:∃ x:Rat,Hid (E r c=x):=⟨_,zh rfl⟩;rw [EQ.out] at hok ZK
     have HOF:Hid (Fr.res (lI z 100000)= aD #[aB #[O (Fr.of q).n,O (Fr.of q).d],Z I 0]):=zh (by
      unfold lI fG.wr;rw [if_neg zd,← ZK,if_pos hok];rfl)
     obtain ⟨s1,Es1⟩:∃ x:ByteArray,Hid ((Fr.of q).n=x):=⟨_,zh rfl⟩;obtain ⟨s2,Es2⟩:∃ x:ByteArray,Hid ((Fr.of q).d=x):=⟨_,zh rfl⟩;rw [Es1.out,Es2.out] at HOF;have RH:=zh (HT.out.later hbv);have HS1:=zh hsm.1;have HS2:=zh hsm.2;have lG:=HF.out.lt;have hm2:(m:Int)<4:=by omega
     have hwm:I.wrap (m:Int)=(m:Int):=by rw [IntKind.wrap_i64];omega
     clear hok hqe ZK hsm;go_wp2_with fail
     refine aO [(.pure,0),(.pure,1),(.pure,2),(.read,3),(.pure,4),(.read,5),(.pure,6),(.pure,7),(.pure,8),(.pure,9),(.pure,10),(.pure,11),(.read,12),(.ext,13),(.pure,14),(.pure,15),(.ext,16),(.pure,17),(.fin,18)] zk zk zR zP ?_;refine zV ?_;refine aL rfl rfl (fun w2 hb2 J hJ=>?_);go_simp;have hb2':Bw wr w2:=aI;refine ((dZ.uf z 100000 (by have:=HS1.out;omega) (by have:=HS2.out;omega) zo zo w2 (RH.out.later hb2')).mono (by rw [HOF.out];exact fun _ _ h=>h)).mono ?_;rintro e w3 ⟨rfl,hb3⟩;refine hJ _ _ hb3 ?_;clear hJ J;refine zV ?_;refine aL rfl rfl (fun w4 hb4 J hJ=>?_);go_simp;refine (tF ⟨s1,s2⟩ w4).mono ?_;unfold Fr.v;rintro e w5 ⟨rfl,hb5⟩;refine hJ _ _ hb5 ?_;clear hJ J;refine zV ?_;refine cZ [_] rfl (fun w6 hb6=>?_);have hx6:Bw wr w6:=aI;replace HF:=zh (HF.out.aq8 hx6);replace HB:=zh (HB.out.later hx6)
     replace HN:=zh (HN.out.below hx6);obtain ⟨⟨y1,cy1⟩,⟨y2,cy2⟩,fy⟩:=HF.out.cells hcl;have lG6:=HF.out.lt;clear hb6 hx6 cM lMr cg ck;go_wp2_with fail
     go_roundw
     case rel =>
      refine ⟨c+1,by go_num,by omega,zh (HF.out.step hcl (fun _ _ _ h=>h) ⟨?_,?_⟩),zh ((HB.out.setOther _ hMG).setOther _ hMG),zh ((HN.out.UZ (aC _) _ _).UZ (aC _) _ _)⟩
      ·show Value.string s1= O (Fr.of (E r c)).n
       rw [EQ.out,Es1.out]
      ·show Value.string s2= O (Fr.of (E r c)).d
       rw [EQ.out,Es2.out]
     case measure=>exact zM
    ·have aV8:c=3:=by omega
     subst aV8;go_wp2_with fail
     go_roundw
     case rel =>
      have hbv:Bw w wr:=HN.out.toBelow hb (aC _);refine ⟨r+1,by go_num,by omega,zh (HM.out.step (v:=ah (some ⟨wo.heap.size,0,none⟩) 3 3) hlt HN.out (fun arr hA=>?_) ?_),hbv⟩
      ·have hAM:arr=ay9:=fG.aA.uniq hA HBM.out;rw [hAM];exact HB.out
      ·refine Fill.frs (HF.out.aw6 fun i hi=>?_) zi zo;have hc3:i=0∨i=1∨i=2:=by omega
       rcases hc3 with rfl|rfl|rfl<;>rfl
     case measure=>exact zM
  ·have hrn:r=3:=by omega
   subst hrn
   have hmv:nQ wo (ah (some ⟨w.heap.size,0,none⟩) 3 3) (og m).fr:=by
    have:nQ wo (ah (some ⟨w.heap.size,0,none⟩) (og m).fr.length (og m).fr.length) (og m).fr:=by
     refine om.aT9 ?_ (by show 3≤1000000;omega);obtain ⟨arr,k1,k2,k3⟩:=HM.out;refine ⟨arr,k1,k2,fun i hi=>?_⟩;have hi3:i<3:=hi;obtain ⟨v,g1,g2⟩:=k3 i hi3;refine ⟨v,g1,?_⟩;rw [← EE.out] at g2;have hc3:i=0∨i=1∨i=2:=by omega
     rcases hc3 with rfl|rfl|rfl<;>exact g2
    exact this
   have KO:=zh hmv;clear hmv;go_wp2_with fail
   go_ret
   exact eH.yes hb KO.out
def Ao (k:Int):Int:=if k<1∨4<k then 2 else 0
theorem XZ (k:Int) (h:k<1∨4<k) (m:List (List Fr)) (w:World) :
  Calls Tryz.prog 71 #[Z I k] w (lK w 2 m):=by
 rcases h with h|h
 ·have q1:decide (k<1)=true:=by simp;omega
  clear h;go_enter Tryz.func71,Tryz.ntmps71
  go_wp2_with fail
  go_ret2
  exact lK.no aI zd
 ·have q1:decide (k<1)=false:=by simp;omega
  have q2:decide (4<k)=true:=by simp;omega
  clear h;go_enter Tryz.func71,Tryz.ntmps71
  go_wp2_with fail
  go_ret2
  exact lK.no aI zd
theorem TW (m:Nat) (hm:m<4) (w:World) (ht:ko.Pow w) (hc:kX w) :
  Calls Tryz.prog 71 #[Z I ((m:Int)+1)] w (lK w 0 (og m).fr):=by
 have Q0:∀ (fn:Fn) (first cap:Array Value) (w:World),(Instr.makeFunc fn first cap).run Tryz.prog w= .ok (.func fn first cap) w:=fun _ _ _ _=>rfl;have q1:decide ((m:Int)+1<1)=false:=by simp;omega
 have q2:decide ((4:Int)<(m:Int)+1)=false:=by simp;omega
 have hb0:Below w.heap.size w (w.alloc (.cells #[Z I ((m:Int)+1)] 3)):=aI;have hk0:=aA.new w #[Z I ((m:Int)+1)] 3
 have HAT:Hid (Calls Tryz.prog 126 #[.func (.func 127) #[] #[ay (some ⟨w.heap.size,0,none⟩)]] (w.alloc (.cells #[Z I ((m:Int)+1)] 3)) (lK (w.alloc (.cells #[Z I ((m:Int)+1)] 3)) 0 (og m).fr)):=Lib.hid
  (Nk 127 #[ay (some ⟨w.heap.size,0,none⟩)] 0 (og m).fr _ (fun W hW=>Xi w.heap.size m hm W (hk0.later hW) ((ht.later hb0).later hW) ((hc.later hb0).later hW)) (fun args W=>enters_of Tryz.func127 zk rfl args W))
 clear hk0 ht hc;go_enter Tryz.func71,Tryz.ntmps71
 go_wp2_with fail
 refine HAT.out.mono ?_;rintro e w1 ⟨hb1,v,rfl,hy, -⟩;obtain ⟨rs,hR, -⟩:=id (hy rfl);obtain ⟨a,cap,rfl, -⟩:=hR;have HV:=zh (hy rfl);clear hy HAT;go_wp2_with fail
 go_ret2
 exact lK.yes (Bt hb0 hb1) HV.out
theorem RN (k:Int) (w:World) (ht:ko.Pow w) (hc:kX w) :
  Calls Tryz.prog 71 #[Z I k] w (lK w (Ao k) (og (k - 1).toNat).fr):=by
 unfold Ao
 by_cases h:k<1∨4<k
 ·rw [if_pos h];exact XZ k h _ w
 ·rw [if_neg h];have:=TW (k - 1).toNat zo w ht hc;have e:(((k - 1).toNat:Nat):Int)+1=k:=by omega
  rw [e] at this;exact this
def dY (f:Nat→Rat):light.ig:=⟨Fr.of (f 0),Fr.of (f 1),Fr.of (f 2)⟩
def lJ (f:Nat→Rat):List Rat:=[f 0,f 1,f 2]
def DU (m:matrix.RM) (f:Nat→Rat) (i:Nat):Rat:=mV (m.getD i []) (lJ f)
def mF (f:Nat→Rat):Bool:=jk (f 0)&&jk (f 1)&&jk (f 2)
theorem vC.cells {w:World} {T:TypeId} {a:Option Addr} {n c:Nat} {l:List Fr} (h:vC w T (ah a n c) l) (h0:0<l.length) :
  n=l.length∧∃ b off,a=some ⟨b,off,none⟩∧b<w.heap.size∧∀ i (h:i<l.length),w.cell? ⟨b,off+i*2,none⟩=some (.string l[i].n)∧w.cell? ⟨b,off+i*2+1,none⟩=some (.string l[i].d):=by
 obtain ⟨a',c',e, -, -, h2⟩:=h.read;simp only [Value.slice.injEq] at e;obtain ⟨rfl,rfl,rfl⟩:=e;obtain ⟨b,off,rfl,k1, -⟩:=h2 0 h0;refine ⟨rfl,b,off,rfl,k1,fun i hi=>?_⟩;obtain ⟨b',off',e, -, k2,k3⟩:=h2 i hi;simp only [Option.some.injEq,Addr.mk.injEq,and_true] at e;obtain ⟨rfl,rfl⟩:=e;exact ⟨k2,k3⟩
theorem Qw (va:Value) (m:matrix.RM) (f:Nat→Rat) (w:World) (h:nQ w va m.fr) (hm:m.ok 3) (h3:m.length=3) (hf:mF f=true) (ht:ko.Pow w) :
  Calls Tryz.prog 218 #[va,(dY f).v] w (eH w (if mF (DU m f) then 0 else 6) (fun v _=>v=(dY (DU m f)).v)):=by
 have hq:∀ q∈lJ f,jk q=true:=by
  unfold mF at hf;simp only [aF] at hf;intro q hq;simp only [lJ,dQ,gU,or_false] at hq
  rcases hq with rfl|rfl|rfl
  ·exact hf.1.1
  ·exact hf.1.2
  ·exact hf.2
 have hap:=fun vl (T:TypeId) w' (hb:Bw w w') (hl:vC w' T vl ((lJ f).map Fr.of))=>matrix.Ga va vl m (lJ f) T w' (h.later hb) hl hm hq (ht.later hb)
 have hml:(m.map fun r=>mV r (lJ f))=lJ (DU m f):=by
  match m,h3 with
  | [r1,r2,r3],_=>rfl
 rw [hml] at hap
 have hall:(lJ (DU m f)).all jk=mF (DU m f):=by
  simp [lJ,mF,Bool.and_assoc]
 obtain ⟨g,Eg⟩:∃ g:Nat→Rat,Hid (DU m f=g):=⟨_,zh rfl⟩;rw [Eg.out] at hap hall ⊢;obtain ⟨er,RJ⟩:∃ y:Int,Hid ((if mF g then 0 else 6)=y):=⟨_,zh rfl⟩;rw [RJ.out];have XT:=zh hap;have ad9:=zh hall;obtain ⟨rs,hR, -⟩:=id h;obtain ⟨a,cap,rfl, -⟩:=hR;have hl3:m.fr.length=3:=by unfold matrix.RM.fr;rw [List.length_map,h3]
 obtain ⟨n0,hn0⟩:∃ n0,rs.length=n0:=⟨_,rfl⟩;rw [hn0] at XT ⊢;have HL3:Hid (((lJ f).map Fr.of)=[Fr.of (f 0),Fr.of (f 1),Fr.of (f 2)]):=zh rfl;obtain ⟨⟨a1,a2⟩,E1⟩:∃ x:Fr,Hid (Fr.of (f 0)=x):=⟨_,zh rfl⟩;obtain ⟨⟨a3,a4⟩,E2⟩:∃ x:Fr,Hid (Fr.of (f 1)=x):=⟨_,zh rfl⟩;obtain ⟨⟨a5,a6⟩,E3⟩:∃ x:Fr,Hid (Fr.of (f 2)=x):=⟨_,zh rfl⟩
 have ev:(dY f).v= aB #[O a1,O a2,O a3,O a4,O a5,O a6]:=by
  unfold dY;rw [E1.out,E2.out,E3.out];rfl
 rw [E1.out,E2.out,E3.out] at HL3;rw [HL3.out] at XT;rw [ev];clear h hm h3 hf ht hq hap hml hall ev hl3 hn0 E1 E2 E3;go_enter Tryz.func218,Tryz.ntmps218
 go_wp2_with fail
 obtain ⟨w0,rV⟩:∃ y,((w.alloc (.cells #[O a1,O a2,O a3,O a4,O a5,O a6] 40)).alloc (.cells #[O ⟨#[]⟩,O ⟨#[]⟩,O ⟨#[]⟩,O ⟨#[]⟩,O ⟨#[]⟩,O ⟨#[]⟩] 281)).alloc (.cells #[O ⟨#[]⟩,O ⟨#[]⟩,O ⟨#[]⟩,O ⟨#[]⟩,O ⟨#[]⟩,O ⟨#[]⟩] 281)=y:=⟨_,rfl⟩;have hb0:Bw w w0:=by rw [← rV];exact aI
 have hx0:aA w0 w.heap.size #[O a1,O a2,O a3,O a4,O a5,O a6] 40:=by rw [← rV];exact bq
 have hx1:aA w0 (w.heap.size+1) #[O ⟨#[]⟩,O ⟨#[]⟩,O ⟨#[]⟩,O ⟨#[]⟩,O ⟨#[]⟩,O ⟨#[]⟩] 281:=by rw [← rV];exact bq
 have hx2:aA w0 (w.heap.size+1+1) #[O ⟨#[]⟩,O ⟨#[]⟩,O ⟨#[]⟩,O ⟨#[]⟩,O ⟨#[]⟩,O ⟨#[]⟩] 281:=by rw [← rV];exact bq
 rw [rV];clear rV;refine aO [(.pure,0),(.pure,1),(.pure,2),(.pure,3),(.ext,4),(.pure,5),(.pure,6),(.ext,7),(.fin,8)] zk zk zR zP ?_;refine zV ?_;refine aL rfl rfl (fun w1 hb1 J hJ=>?_);go_simp;have h01:Bw w0 w1:=aI;refine (XT.out _ 40 w1 (Bt hb0 h01) (light.ig.frs (t:=⟨⟨a1,a2⟩,⟨a3,a4⟩,⟨a5,a6⟩⟩) (hx0.later h01))).mono ?_;rintro e w2 (⟨hy,vo,rfl,hb2,hfr⟩|⟨hy,rfl,hb2⟩)
 ·rw [ad9.out] at hy;refine hJ _ _ hb2 ?_;clear hJ J;obtain ⟨⟨s1,s2⟩,E1⟩:∃ x:Fr,Hid (Fr.of (g 0)=x):=⟨_,zh rfl⟩;obtain ⟨⟨s3,s4⟩,E2⟩:∃ x:Fr,Hid (Fr.of (g 1)=x):=⟨_,zh rfl⟩;obtain ⟨⟨s5,s6⟩,E3⟩:∃ x:Fr,Hid (Fr.of (g 2)=x):=⟨_,zh rfl⟩
  have hl:(lJ g).map Fr.of=[⟨s1,s2⟩,⟨s3,s4⟩,⟨s5,s6⟩]:=by
   show [Fr.of (g 0),Fr.of (g 1),Fr.of (g 2)]=_
   rw [E1.out,E2.out,E3.out]
  have hv:(dY g).v= aB #[O s1,O s2,O s3,O s4,O s5,O s6]:=by
   unfold dY;rw [E1.out,E2.out,E3.out];rfl
  rw [hl] at hfr;have HVV:=zh hv;have HE0:Hid (er=0):=zh (by rw [← RJ.out,hy];rfl);obtain ⟨ao,co,rfl, -⟩:=hfr.read;obtain ⟨-, b,off,rfl,lb,hcell⟩:=vC.cells hfr zi;have hc0:=hcell 0 zi;have hc1:=hcell 1 zi;have hc2:=hcell 2 zi;simp only [List.getElem_cons_zero,List.getElem_cons_succ,Nat.zero_mul,fZ] at hc0 hc1 hc2;clear hl hv hfr hcell hy;refine zV ?_;refine aL rfl rfl (fun w3 hb3 J hJ=>?_);go_simp;refine (VE _ _ _ w3).mono ?_;rintro e w4 ⟨rfl,rfl⟩;refine hJ _ _ (Below.refl _ _) ?_;clear hJ J;refine cZ [_] rfl (fun w5 hb5=>?_);have h25:Bw w2 w5:=aI;have h05:Bw w0 w5:=Bt (Bt h01 hb2) h25;have k1:=(h25.cell (p:=⟨b,off,none⟩) lb).trans hc0.1;have k2:=(h25.cell (p:=⟨b,off+1,none⟩) lb).trans hc0.2;have k3:=(h25.cell (p:=⟨b,off+1*2,none⟩) lb).trans hc1.1;have k4:=(h25.cell (p:=⟨b,off+1*2+1,none⟩) lb).trans hc1.2
  have k5:=(h25.cell (p:=⟨b,off+2*2,none⟩) lb).trans hc2.1;have k6:=(h25.cell (p:=⟨b,off+2*2+1,none⟩) lb).trans hc2.2;have hy2:=hx2.later h05
  have hcp:∀ ty,(Builtin.copy_ #[130,130] ty #[ah (some ⟨w.heap.size+1+1,0,none⟩) 3 3,ah (some ⟨b,off,none⟩) 3 co]).run Tryz.prog w5= .ok (goInt 3) (w5.setRow (w.heap.size+1+1) #[O s1,O s2,O s3,O s4,O s5,O s6]):=fun ty=>by
   obtain ⟨i0,hi,hz0,hz1,hz2⟩:=info_parts matrix.Wh
   exact matrix.vS Tryz.prog w5 130 130 ty 38 (w.heap.size+1+1) 0 3 3 2 ⟨b,off,none⟩ 3 co #[O ⟨#[]⟩,O ⟨#[]⟩,O ⟨#[]⟩,O ⟨#[]⟩,O ⟨#[]⟩,O ⟨#[]⟩] 281 [O s1,O s2,O s3,O s4,O s5,O s6] Tryz.underlying130 (by rw [hi];simp [hz1]) hy2 rfl (fun j v hv=>by
    rw [Addr.add_lit]
    match j,hv with
    | 0,hv=>cases hv;exact k1
    | 1,hv=>cases hv;exact k2
    | 2,hv=>cases hv;exact k3
    | 3,hv=>cases hv;exact k4
    | 4,hv=>cases hv;exact k5
    | 5,hv=>cases hv;exact k6) zi (by intro v hv;simp at hv;rcases hv with rfl|rfl|rfl|rfl|rfl|rfl<;>rfl)
  obtain ⟨w6,Ew6⟩:∃ y,w5.setRow (w.heap.size+1+1) #[O s1,O s2,O s3,O s4,O s5,O s6]=y:=⟨_,rfl⟩;have hz2:aA w6 (w.heap.size+1+1) #[O s1,O s2,O s3,O s4,O s5,O s6] 281:=by rw [← Ew6];exact setRow_heap _ _ _ _ _ _ hy2
  have Wm:Bw w w6:=by rw [← Ew6];exact below_setRow (Bt hb0 h05) zo _
  have hz1:aA w6 (w.heap.size+1) #[O ⟨#[]⟩,O ⟨#[]⟩,O ⟨#[]⟩,O ⟨#[]⟩,O ⟨#[]⟩,O ⟨#[]⟩] 281:=by
   rw [← Ew6];have:=hx1.later h05;unfold aA at *;rw [setRow_other _ _ _ _ zo];exact this
  rw [Ew6] at hcp;have c2:=hz2.cell;have c1:=hz1.cell;have f1:=hz1.free;have HZ2:=zh hz2;clear k1 k2 k3 k4 k5 k6 hc0 hc1 hc2 hy2 Ew6 hx0 hx1 hx2 hb0 hb1 h01 hb2 hb3 hb5 h25 h05 hz2;go_wp2_with fail
  refine gG rfl rfl ((((((hz1.set 0 _).set 1 _).set 2 _).set 3 _).set 4 _).set 5 _) Tryz.underlying281 rfl zk ?_;rw [HE0.out];exact eH.yes aI (by rw [HVV.out];rfl)
 ·rw [ad9.out] at hy;have HVE:Hid (er=6):=zh (by rw [← RJ.out,hy];rfl);refine hJ _ _ hb2 ?_;clear hJ J hy;refine zV ?_;refine aL rfl rfl (fun w3 hb3 J hJ=>?_);go_simp;refine (SL _ _ _ 6 zd w3).mono ?_;rintro e w4 ⟨rfl,rfl⟩;exact ⟨rfl,by rw [HVE.out];exact eH.no (Bt (Bt (Bt hb0 h01) hb2) aI) zd⟩
def rC (g:Nat→Rat):Bool:=decide (g 0=0) || decide (g 1=0) || decide (g 2=0)
theorem Qr {q:Rat} (h:jk q=true):jQ (Fr.of q)=(gZ q 0,0):=by unfold jQ;rw [je h]
theorem qC {q:Rat}:gZ q 0=0↔q=0:=by
 unfold gZ
 constructor
 ·intro h
  by_cases h1:q<0
  ·rw [if_pos h1] at h;cases h
  ·rw [if_neg h1] at h
   by_cases h2:0<q
   ·rw [if_pos h2] at h;cases h
   ·grind
 ·intro h;subst h;rfl
theorem ZG (a b c d e f:ByteArray) (w:World):(Instr.index 279 (aB #[O a,O b,O c,O d,O e,O f]) (Z I 0)).run Tryz.prog w= .ok (aB #[O a,O b]) w:=by kernel_rfl
theorem ZF (a b c d e f:ByteArray) (w:World):(Instr.index 279 (aB #[O a,O b,O c,O d,O e,O f]) (Z I 1)).run Tryz.prog w= .ok (aB #[O c,O d]) w:=by kernel_rfl
theorem ZE (a b c d e f:ByteArray) (w:World):(Instr.index 279 (aB #[O a,O b,O c,O d,O e,O f]) (Z I 2)).run Tryz.prog w= .ok (aB #[O e,O f]) w:=by kernel_rfl
theorem PS (g:Nat→Rat) (hg:mF g=true) (w:World) :
  Calls Tryz.prog 219 #[(dY g).v] w (fun e w'=>e= aj (ak (rC g))∧Bw w w'):=by
 unfold mF at hg;simp only [aF] at hg
 have HS:Hid (∀ k,k<3→∀ w,Calls Tryz.prog 75 #[(Fr.of (g k)).v] w (fun e w'=>e= aj (aD #[Z I (gZ (g k) 0),Z I 0])∧Bw w w')):=zh fun k hk w=>by
  have hq:jk (g k)=true:=by
   have:k=0∨k=1∨k=2:=by omega
   rcases this with rfl|rfl|rfl
   ·exact hg.1.1
   ·exact hg.1.2
   ·exact hg.2
  have:=dZ.qy (Fr.of (g k)) w;rw [Qr hq] at this;exact this
 obtain ⟨b,Eb⟩:∃ b,Hid (rC g=b):=⟨_,zh rfl⟩;rw [Eb.out];obtain ⟨⟨a1,a2⟩,E1⟩:∃ x:Fr,Hid (Fr.of (g 0)=x):=⟨_,zh rfl⟩;obtain ⟨⟨a3,a4⟩,E2⟩:∃ x:Fr,Hid (Fr.of (g 1)=x):=⟨_,zh rfl⟩;obtain ⟨⟨a5,a6⟩,E3⟩:∃ x:Fr,Hid (Fr.of (g 2)=x):=⟨_,zh rfl⟩
 have ev:(dY g).v= aB #[O a1,O a2,O a3,O a4,O a5,O a6]:=by
  unfold dY;rw [E1.out,E2.out,E3.out];rfl
 rw [ev];have hi0:=ZG a1 a2 a3 a4 a5 a6;have hi1:=ZF a1 a2 a3 a4 a5 a6;have hi2:=ZE a1 a2 a3 a4 a5 a6;clear hg ev;go_enter Tryz.func219,Tryz.ntmps219
 go_wp2_with fail
 go_loopw [6] (fun iv wr=>∃ k:Nat,iv= Z I (k:Int)∧k≤3∧Hid (∀ j,j<k→g j≠0)∧Bw w wr) (fun iv _=>3 - (intOf iv).toNat)
 case atStart=>exact ⟨0,rfl,by omega,zh (fun j h=>by omega),aI⟩
 case round =>
  obtain ⟨k,rfl,hk,HZ,hb⟩:=hrel
  rcases aH k 3 with hlt|hge
  ·have hk3:k=0∨k=1∨k=2:=by omega
   rcases hk3 with rfl|rfl|rfl
   ·have hs:=HS.out 0 zo;rw [E1.out] at hs;unfold Fr.v at hs;simp only at hs;have XF:=zh hs;clear hs
    by_cases hz:g 0=0
    ·have hc:gZ (g 0) 0=0:=qC.2 hz;rw [hc] at XF
     have hf:b=true:=by
      rw [← Eb.out];unfold rC;simp [hz]
     have HB:=zh hf;clear hf hz hc;go_wp2_with fail
     refine (XF.out _).mono ?_;rintro e w2 ⟨rfl,hb2⟩;go_wp2_with fail
     refine (oZ _ _).mono ?_;rintro e w3 ⟨rfl,rfl⟩;go_wp2_with fail
     go_ret
     exact ⟨by rw [HB.out];rfl,Bt (bL hb _) hb2⟩
    ·have hc:¬ gZ (g 0) 0=0:=fun e=>hz (qC.1 e);have HNZ:=zh hz;generalize gZ (g 0) 0=s at *;have hc2:(s == 0)=false:=by simp [hc]
     clear hz hc;go_wp2_with fail
     refine (XF.out _).mono ?_;rintro e w2 ⟨rfl,hb2⟩;go_wp2_with fail
     refine (oZ _ _).mono ?_;rintro e w3 ⟨rfl,rfl⟩;go_wp2_with fail
     go_roundw
     case rel =>
      refine ⟨0+1,by go_num,by omega,zh fun j hj=>?_,Bt (bL hb _) hb2⟩
      rcases aH j 0 with h|h
      ·exact HZ.out j h
      ·obtain rfl:j=0:=by omega
       exact HNZ.out
     case measure=>simp [intOf]
   ·have hs:=HS.out 1 zo;rw [E2.out] at hs;unfold Fr.v at hs;simp only at hs;have XF:=zh hs;clear hs
    by_cases hz:g 1=0
    ·have hc:gZ (g 1) 0=0:=qC.2 hz;rw [hc] at XF
     have hf:b=true:=by
      rw [← Eb.out];unfold rC;simp [hz]
     have HB:=zh hf;clear hf hz hc;go_wp2_with fail
     refine (XF.out _).mono ?_;rintro e w2 ⟨rfl,hb2⟩;go_wp2_with fail
     refine (oZ _ _).mono ?_;rintro e w3 ⟨rfl,rfl⟩;go_wp2_with fail
     go_ret
     exact ⟨by rw [HB.out];rfl,Bt (bL hb _) hb2⟩
    ·have hc:¬ gZ (g 1) 0=0:=fun e=>hz (qC.1 e);have HNZ:=zh hz;generalize gZ (g 1) 0=s at *;have hc2:(s == 0)=false:=by simp [hc]
     clear hz hc;go_wp2_with fail
     refine (XF.out _).mono ?_;rintro e w2 ⟨rfl,hb2⟩;go_wp2_with fail
     refine (oZ _ _).mono ?_;rintro e w3 ⟨rfl,rfl⟩;go_wp2_with fail
     go_roundw
     case rel =>
      refine ⟨1+1,by go_num,by omega,zh fun j hj=>?_,Bt (bL hb _) hb2⟩
      rcases aH j 1 with h|h
      ·exact HZ.out j h
      ·obtain rfl:j=1:=by omega
       exact HNZ.out
     case measure=>simp [intOf]
   ·have hs:=HS.out 2 zo;rw [E3.out] at hs;unfold Fr.v at hs;simp only at hs;have XF:=zh hs;clear hs
    by_cases hz:g 2=0
    ·have hc:gZ (g 2) 0=0:=qC.2 hz;rw [hc] at XF
     have hf:b=true:=by
      rw [← Eb.out];unfold rC;simp [hz]
     have HB:=zh hf;clear hf hz hc;go_wp2_with fail
     refine (XF.out _).mono ?_;rintro e w2 ⟨rfl,hb2⟩;go_wp2_with fail
     refine (oZ _ _).mono ?_;rintro e w3 ⟨rfl,rfl⟩;go_wp2_with fail
     go_ret
     exact ⟨by rw [HB.out];rfl,Bt (bL hb _) hb2⟩
    ·have hc:¬ gZ (g 2) 0=0:=fun e=>hz (qC.1 e);have HNZ:=zh hz;generalize gZ (g 2) 0=s at *;have hc2:(s == 0)=false:=by simp [hc]
     clear hz hc;go_wp2_with fail
     refine (XF.out _).mono ?_;rintro e w2 ⟨rfl,hb2⟩;go_wp2_with fail
     refine (oZ _ _).mono ?_;rintro e w3 ⟨rfl,rfl⟩;go_wp2_with fail
     go_roundw
     case rel =>
      refine ⟨2+1,by go_num,by omega,zh fun j hj=>?_,Bt (bL hb _) hb2⟩
      rcases aH j 2 with h|h
      ·exact HZ.out j h
      ·obtain rfl:j=2:=by omega
       exact HNZ.out
     case measure=>simp [intOf]
  ·have hk3:k=3:=by omega
   subst hk3
   have hf:b=false:=by
    rw [← Eb.out];unfold rC;simp [HZ.out 0 zo,HZ.out 1 zo,HZ.out 2 zo]
   have HB:=zh hf;clear hf;go_wp2_with fail
   go_ret
   exact ⟨by rw [HB.out];rfl,hb⟩
def wI (d p q:Rat):Rat:=d*(q / p)+(1 - d)
def kS (d p q:Rat):Bool:=jk (q / p)&&jk (d*(q / p))&&jk (1 - d)&&jk (wI d p q)
theorem zq (q:Rat):(jk q=true∧∃ s t,Fr.of q=⟨s,t⟩∧Fr.res (fG.wr q)= aD #[aB #[O s,O t],Z I 0])∨(jk q=false∧Fr.res (fG.wr q)= aD #[aB #[O ⟨#[]⟩,O ⟨#[]⟩],Z I 6]):=by
 cases h:jk q with
 | false=>exact .inr ⟨rfl,vJ h⟩
 | true=>exact .inl ⟨rfl,(Fr.of q).n,(Fr.of q).d,rfl,by unfold fG.wr;rw [if_pos h];rfl⟩
theorem Rj {p q:Rat} (hp:jk p=true) (hq:jk q=true) (h0:q≠0):nP (Fr.of p) (Fr.of q)=fG.wr (p / q):=by
 unfold nP;rw [kH (je hp) (je hq),if_neg h0]
theorem QT {p q:Rat} (hp:jk p=true) (hq:jk q=true):pO (Fr.of p) (Fr.of q)=fG.wr (p*q):=kH (je hp) (je hq)
theorem Rx {p q:Rat} (hp:jk p=true) (hq:jk q=true):wS (Fr.of p) (Fr.of q)=fG.wr (p+q):=kH (je hp) (je hq)
theorem Qp {p q:Rat} (hp:jk p=true) (hq:jk q=true):yE (Fr.of p) (Fr.of q)=fG.wr (p - q):=kH (je hp) (je hq)
theorem Z0 (bs bf bd bo k:Nat) (g2 g1:Nat→Rat) (d:Rat) (w:World) (hs:aA w bs (dY g2).cells 281) (hf:aA w bf (dY g1).cells 281)
  (hd:aA w bd #[O (Fr.of d).n,O (Fr.of d).d] 38) (ho:aA w bo #[O (Fr.of 1).n,O (Fr.of 1).d] 38)
  (hk:k<3) (h2:jk (g2 k)=true) (h1:jk (g1 k)=true) (h0:g1 k≠0) (hdk:jk d=true) (ht:ko.Pow w) :
  Calls Tryz.prog 220 #[Z I (k:Int),ay (some ⟨bs,0,none⟩),ay (some ⟨bf,0,none⟩),ay (some ⟨bd,0,none⟩),ay (some ⟨bo,0,none⟩)] w
   (eH w (if kS d (g1 k) (g2 k) then 0 else 6) (fun v _=>v=(Fr.of (wI d (g1 k) (g2 k))).v)):=by
 have hk3:k=0∨k=1∨k=2:=by omega
 have c2a:w.cell? ⟨bs,k*2,none⟩=some (.string (Fr.of (g2 k)).n):=by rw [hs.cell];rcases hk3 with rfl|rfl|rfl<;>rfl
 have c2b:w.cell? ⟨bs,k*2+1,none⟩=some (.string (Fr.of (g2 k)).d):=by rw [hs.cell];rcases hk3 with rfl|rfl|rfl<;>rfl
 have c1a:w.cell? ⟨bf,k*2,none⟩=some (.string (Fr.of (g1 k)).n):=by rw [hf.cell];rcases hk3 with rfl|rfl|rfl<;>rfl
 have c1b:w.cell? ⟨bf,k*2+1,none⟩=some (.string (Fr.of (g1 k)).d):=by rw [hf.cell];rcases hk3 with rfl|rfl|rfl<;>rfl
 have hdiv:=fun w' hb=>dZ.qX (Fr.of (g2 k)) (Fr.of (g1 k)) w' (ht.later hb);rw [Rj h2 h1 h0] at hdiv;have h11:jk 1=true:=by decide+kernel
 have hmul:=fun (x:Rat) (hx:jk x=true) w' hb=>(QT hdk hx) ▸ dZ.oK (Fr.of d) (Fr.of x) w' (ht.later hb);have hsub:=fun w' hb=>dZ.BF (Fr.of 1) (Fr.of d) w' (ht.later hb);rw [Qp h11 hdk] at hsub;have hadd:=fun (x y:Rat) (hx:jk x=true) (hy:jk y=true) w' hb=>(Rx hx hy) ▸ dZ.wZ (Fr.of x) (Fr.of y) w' (ht.later hb);have hg:wI d (g1 k) (g2 k)=d*(g2 k / g1 k)+(1 - d):=rfl;have hgo:kS d (g1 k) (g2 k)=(jk (g2 k / g1 k)&&jk (d*(g2 k / g1 k))&&jk (1 - d)&&jk (d*(g2 k / g1 k)+(1 - d))):=rfl;rw [hg,hgo];generalize g2 k / g1 k=x1 at *;obtain ⟨⟨s1,s2⟩,E1⟩:∃ x:Fr,Hid (Fr.of (g2 k)=x):=⟨_,zh rfl⟩;obtain ⟨⟨t1,t2⟩,E2⟩:∃ x:Fr,Hid (Fr.of (g1 k)=x):=⟨_,zh rfl⟩;obtain ⟨⟨d1,d2⟩,E3⟩:∃ x:Fr,Hid (Fr.of d=x):=⟨_,zh rfl⟩;obtain ⟨⟨o1,o2⟩,E4⟩:∃ x:Fr,Hid (Fr.of 1=x):=⟨_,zh rfl⟩;rw [E1.out] at c2a c2b hdiv;rw [E2.out] at c1a c1b hdiv;rw [E3.out] at hd hmul hsub
 rw [E4.out] at ho hsub;have l2:=hs.lt;have l1:=hf.lt;have cd:=hd.cell;have ld:=hd.lt;have co:=ho.cell;have lo:=ho.lt;have hkk:(k:Int)<3:=by omega
 have ba6:=zh hdiv;have aP1:=zh hmul;have ba2:=zh hsub;have aP4:=zh hadd;obtain ⟨er,RJ⟩:∃ y:Int,Hid ((if (jk x1&&jk (d*x1)&&jk (1 - d)&&jk (d*x1+(1 - d))) then 0 else 6)=y):=⟨_,zh rfl⟩;have HDK:=zh hdk;rw [RJ.out];clear hs hf hk3 hdiv hmul hsub hadd hg hgo h11 h0 h1 h2 hdk ht;go_enter Tryz.func220,Tryz.ntmps220
 go_wp2_with fail
 refine aO [(.pure,0),(.pure,1),(.pure,2),(.read,3),(.pure,4),(.pure,5),(.pure,6),(.read,7),(.ext,8),(.pure,9),(.pure,10),(.ext,11),(.alloc #[O ⟨#[]⟩,O ⟨#[]⟩] 38,12),(.fin,13)] zk zk zR zP ?_;refine zV ?_;have hA0:Below w.heap.size w (w.alloc (.cells #[O ⟨#[]⟩,O ⟨#[]⟩] 38)):=aI;have hr0:=aA.new w #[O ⟨#[]⟩,O ⟨#[]⟩] 38;refine aL rfl rfl (fun w1 hb1 J hJ=>?_);go_simp;have hr1:=hr0.drew.later hb1;have h1:Bw w w1:=aI;refine (ba6.out w1 h1).mono ?_;rintro e w2 ⟨rfl,hb2⟩;refine hJ _ _ hb2 ?_;clear hJ J;have h2:Bw w w2:=Bt h1 hb2;replace hr1:=hr1.later hb2
 rcases zq x1 with ⟨hx1,u1,u2,eu,hres⟩|⟨hx1,hres⟩
 rotate_left
 ·have HE6:Hid (er=6):=zh (by rw [← RJ.out,hx1];rfl);rw [hres];clear hx1;refine zV ?_;refine aL rfl rfl (fun w3 hb3 J hJ=>?_);go_simp;refine (xB Fr.no 6 zd w3).mono ?_;rintro e w4 ⟨rfl,hb4⟩;exact ⟨rfl,by rw [HE6.out];exact eH.no (Bt (Bt h2 hb3) hb4) zd⟩
 have Yl:=zh hx1;have hmul:=aP1.out x1 hx1;rw [eu] at hmul;have HMU:=zh hmul;rw [hres];clear eu hx1 hres hmul aP1;refine zV ?_;refine aL rfl rfl (fun w3 hb3 J hJ=>?_);go_simp;refine (tF ⟨u1,u2⟩ w3).mono ?_;unfold Fr.v;rintro e w4 ⟨rfl,hb4⟩;refine hJ _ _ hb4 ?_;clear hJ J;have h24:Bw w2 w4:=Bt hb3 hb4;have h4:Bw w w4:=Bt h2 h24;replace hr1:=hr1.later h24;refine zV ?_;refine dU rfl (fun b12 w5 hw5 WH aV1 bd1 Ac=>?_);go_simp;replace Ac:aA _ _ _ _:=Ac;have bd0:w.heap.size≤b12:=(by first|omega|exact au (Below.size (B:=w.heap.size) aI) WH);refine cZ [_] rfl (fun w6 hb6=>?_);replace Ac:=aA.later (Ac) hb6;replace ax1:=Ac.cell;replace av2:=Ac.free;replace aq3:=Ac.lt;have h46:Bw w4 w6:=aI;have h6:Bw w w6:=Bt h4 h46;replace hr1:=hr1.later h46
 have hNe:w.heap.size+1≤b12:=WH;have hne:w.heap.size≠b12:=by omega
 have hd6:=hd.later h6;have ho6:=ho.later h6;have cd6:=hd6.cell;have co6:=ho6.cell;have ned:bd≠b12:=by omega
 have neo:bo≠b12:=by omega
 clear hb1 hb2 hb3 hb4 hb6 h1 h2 h24 h46 h4 c2a c2b c1a c1b WH;go_wp2_with fail
 obtain ⟨w7,E7⟩:∃ y,(w6.setCell ⟨b12,0,none⟩ (O u1)).setCell ⟨b12,1,none⟩ (O u2)=y:=⟨_,rfl⟩
 have h7:Bw w w7:=by
  rw [← E7];have:w.heap.size≤b12:=by omega
  exact (h6.setCell this _).setCell this _
 have hp7:aA w7 b12 #[O u1,O u2] 38:=by rw [← E7];exact (Ac.set 0 _).set 1 _
 have hr7:aA w7 w.heap.size #[O ⟨#[]⟩,O ⟨#[]⟩] 38:=by rw [← E7];exact (hr1.setOther _ hne).setOther _ hne
 have hd7:aA w7 bd #[O d1,O d2] 38:=by rw [← E7];exact (hd6.setOther _ ned).setOther _ ned
 have ho7:aA w7 bo #[O o1,O o2] 38:=by rw [← E7];exact (ho6.setOther _ neo).setOther _ neo
 rw [E7];clear E7 hd6 ho6 cd6 co6 Ac ax1 av2 aq3 hr1 h6 cd co;refine (HMU.out w7 h7).mono ?_;rintro e w8 ⟨rfl,o7⟩;have h8:Bw w w8:=Bt h7 o7
 rcases zq (d*x1) with ⟨hx2,v1,v2,eu,hres⟩|⟨hx2,hres⟩
 rotate_left
 ·have HE6:Hid (er=6):=zh (by rw [← RJ.out,hx2];simp);rw [hres];clear hx2;go_wp2_with fail
  refine (xB Fr.no 6 zd _).mono ?_;rintro e w9 ⟨rfl,rJ⟩;exact ⟨rfl,by rw [HE6.out];exact eH.no (Bt h8 rJ) zd⟩
 have hadd:=fun y hy=>aP4.out (d*x1) y hx2 hy;rw [eu] at hadd;have HAD:=zh hadd;have HX2:=zh hx2;rw [hres];clear eu hx2 hres hadd aP4;go_wp2_with fail
 refine (tF ⟨v1,v2⟩ _).mono ?_;unfold Fr.v;rintro e w9 ⟨rfl,rJ⟩;have h79:Bw w7 w9:=Bt o7 rJ;have hp9:=hp7.later h79;have cp9:=hp9.cell;have fp9:=hp9.free;have hr9:=hr7.later h79;have hd9:=hd7.later h79;have ho9:=ho7.later h79;have h9:Bw w w9:=Bt h7 h79;have hge:w.heap.size≤b12:=by omega
 clear hp7 hr7 hd7 ho7 h79 o7 rJ h8 h7;go_wp2_with fail
 obtain ⟨wa,Ea⟩:∃ y,(w9.setCell ⟨b12,0,none⟩ (O v1)).setCell ⟨b12,1,none⟩ (O v2)=y:=⟨_,rfl⟩
 have ha:Bw w wa:=by
  rw [← Ea];exact (h9.setCell hge _).setCell hge _
 have hpa:aA wa b12 #[O v1,O v2] 38:=by rw [← Ea];exact (hp9.set 0 _).set 1 _
 have hra:aA wa w.heap.size #[O ⟨#[]⟩,O ⟨#[]⟩] 38:=by rw [← Ea];exact (hr9.setOther _ hne).setOther _ hne
 have hda:aA wa bd #[O d1,O d2] 38:=by rw [← Ea];exact (hd9.setOther _ ned).setOther _ ned
 have hoa:aA wa bo #[O o1,O o2] 38:=by rw [← Ea];exact (ho9.setOther _ neo).setOther _ neo
 rw [Ea];have cpa:=hpa.cell;have lpa:=hpa.lt;have cda:=hda.cell;have lda:=hda.lt;have coa:=hoa.cell;have loa:=hoa.lt;clear Ea hp9 cp9 fp9 hr9 hd9 ho9 h9;refine aO [(.read,0),(.read,1),(.read,2),(.ext,3),(.pure,4),(.pure,5),(.ext,6),(.ext,7),(.pure,8),(.pure,9),(.ext,10),(.fin,11)] zk zk zR zP ?_;refine zV ?_;refine aL rfl rfl (fun w1 hb1 J hJ=>?_);go_simp;have Fz:=hra.drew.later hb1;have h1:Bw w w1:=aI;refine (ba2.out w1 h1).mono ?_;rintro e w2 ⟨rfl,hb2⟩;refine hJ _ _ hb2 ?_;clear hJ J;have h2:Bw w w2:=Bt h1 hb2;replace Fz:=Fz.later hb2
 rcases zq (1 - d) with ⟨hx3,p1,p2,eu,hres⟩|⟨hx3,hres⟩
 rotate_left
 ·have HE6:Hid (er=6):=zh (by rw [← RJ.out,hx3];simp);rw [hres];clear hx3;refine zV ?_;refine aL rfl rfl (fun w3 hb3 J hJ=>?_);go_simp;refine (xB Fr.no 6 zd w3).mono ?_;rintro e w4 ⟨rfl,hb4⟩;exact ⟨rfl,by rw [HE6.out];exact eH.no (Bt (Bt h2 hb3) hb4) zd⟩
 have hadd:=HAD.out (1 - d) hx3;rw [eu] at hadd;have ba8:=zh hadd;have Od:=zh hx3;rw [hres];clear eu hx3 hres hadd HAD;refine zV ?_;refine aL rfl rfl (fun w3 hb3 J hJ=>?_);go_simp;refine (tF ⟨p1,p2⟩ w3).mono ?_;unfold Fr.v;rintro e w4 ⟨rfl,hb4⟩;refine hJ _ _ hb4 ?_;clear hJ J;have h4:Bw w w4:=Bt h2 (Bt hb3 hb4);replace Fz:=Fz.later (Bt hb3 hb4);refine zV ?_;refine aL rfl rfl (fun w5 hb5 J hJ=>?_);go_simp;have h5:Bw w w5:=Bt h4 hb5;refine (ba8.out w5 h5).mono ?_;rintro e w6' ⟨rfl,hb6⟩;refine hJ _ _ hb6 ?_;clear hJ J;have h6:Bw w w6':=Bt h5 hb6;replace Fz:=Fz.later (Bt hb5 hb6)
 rcases zq (d*x1+(1 - d)) with ⟨hx4,q1,q2,eu,hres⟩|⟨hx4,hres⟩
 rotate_left
 ·have HE6:Hid (er=6):=zh (by rw [← RJ.out,hx4];simp);rw [hres];clear hx4;refine zV ?_;refine aL rfl rfl (fun w3 hb3 J hJ=>?_);go_simp;refine (xB Fr.no 6 zd w3).mono ?_;rintro e w4 ⟨rfl,hb4⟩;exact ⟨rfl,by rw [HE6.out];exact eH.no (Bt (Bt h6 hb3) hb4) zd⟩
 have HE0:Hid (er=0):=zh (by rw [← RJ.out,Yl.out,HX2.out,Od.out,hx4];rfl);have HEQ:=zh eu;rw [hres];clear eu hx4 hres;refine zV ?_;refine aL rfl rfl (fun w7' jY J hJ=>?_);go_simp;refine (tF ⟨q1,q2⟩ w7').mono ?_;unfold Fr.v;rintro e w8' ⟨rfl,o7⟩;refine hJ _ _ o7 ?_;clear hJ J;refine zV ?_;refine cZ [_] rfl (fun wz rJ=>?_);have h69:Bw w6' wz:=aI;replace Fz:=Fz.later h69;have cra:=Fz.cell;have fra:=Fz.free;have h9:Bw w wz:=Bt h6 h69;clear hb1 hb2 hb3 hb4 hb5 hb6 jY o7 rJ h1 h2 h4 h5 h6 h69;go_wp2_with fail
 refine gG rfl rfl ((Fz.set 0 _).set 1 _) Tryz.underlying38 rfl zk ?_;rw [HE0.out];exact eH.yes ((h9.setCell (aC _) _).setCell (aC _) _) (by rw [HEQ.out];rfl)
end Go.Proofs.adapt
