/- Lemmas for the proof. No condition. -/
import Derived.Test.YtbngfhgoeoncmaaGreatDoorTB14
import Derived.Test.YtbngfhgoeoncmaaGreatDoorTB31
import Derived.Defers
import Derived.Tactics2
set_option linter.unusedVariables false
set_option linter.unusedSimpArgs false
set_option maxRecDepth 100000
set_option maxHeartbeats 16000000
open Go.Ending renaming returned → ah
open Go.IntKind renaming i64 → I
open Go.Value renaming agg → aB, bool → aC, int → Z, pointer → au, slice → aj, string → O, tuple → aF
open List renaming all_eq_true → bZ, cons_append → bB, getElem_mem → bN, length_cons → aV, mem_cons → cK, not_mem_nil → gG, set_cons_succ → aJ, set_cons_zero → aI
open Nat renaming le_refl → aG, le_trans → ay, lt_or_ge → aH
namespace Go.Proofs.light
open Go Go.RowKit Go.SW Go.Num Go.Mem Go.Proofs Go.Dec Go.d9
theorem Dg (v:Value) (l:List Fr) (T:TypeId) (w:World) (h:qM w T v l) :
  Calls Tryz.prog 193 #[v] w (fun e w'=>e= ah (Z I (jW l))∧Below w.heap.size w w'):=by
 obtain ⟨a,cap,rfl,hc1,hc2,hread⟩:=h.read;have H:=zh hread;clear h hread;go_enter Tryz.func193,Tryz.ntmps193
 go_wp2_with fail
 go_loopw [8] (fun iv wr=>∃ k:Nat,iv= Z I (k:Int)∧k≤l.length∧Hid (∀ j (h:j<l.length),j<k→(rd l[j]).isSome=true)∧Below w.heap.size w wr) (fun iv _=>l.length - (intOf iv).toNat)
 case atStart=>exact ⟨0,rfl,by omega,zh (fun j _ h=>by omega),Below.refl _ _⟩
 case round =>
  obtain ⟨k,rfl,hk,HK,hb⟩:=hrel
  rcases aH k l.length with hlt|hge
  ·obtain ⟨b,off,rfl,hbl,hx1,hx2⟩:=H.out k hlt;have hc1:=(hb.cell (p:=⟨b,off+k*2,none⟩) hbl).trans hx1;have hc2:=(hb.cell (p:=⟨b,off+k*2+1,none⟩) hbl).trans hx2;clear hx1 hx2;have hck:=dw.gQ l[k];generalize hlk:l[k]=lk at *;obtain ⟨s,t⟩:=lk;cases hv:(rd ⟨s,t⟩).isSome with
   | true =>
    rw [Gg hv] at hck;have H8:Hid (∀ w,Calls Tryz.prog 69 #[aB #[O s,O t]] w (fun e w'=>e= ah (Z I 0)∧Below w.heap.size w w')):=zh hck;have YZ:=zh hlk;have HV:=zh hv;clear hck hlk hv;go_wp2_with fail
    refine (H8.out _).mono ?_;rintro e v1 ⟨rfl,hc1⟩;go_wp2_with fail
    go_roundw
    case rel =>
     refine ⟨k+1,by go_num,by omega,zh fun j hj hjk=>?_,Bt hb aO⟩
     rcases aH j k with h|h
     ·exact HK.out j hj h
     ·obtain rfl:j=k:=by omega
      rw [YZ.out];exact HV.out
    case measure=>exact zM
   | false =>
    rw [Qt hv] at hck;have H8:Hid (∀ w,Calls Tryz.prog 69 #[aB #[O s,O t]] w (fun e w'=>e= ah (Z I 20)∧Below w.heap.size w w')):=zh hck
    have hno:jW l=20:=by
     unfold jW;rw [if_neg];intro h;have:=List.all_eq_true.1 h l[k] (bN _);rw [hlk,hv] at this;cases this
    have HNO:=zh hno;clear hck hlk hv hno;go_wp2_with fail
    refine (H8.out _).mono ?_;rintro e v1 ⟨rfl,hc1⟩;go_wp2_with fail
    go_ret
    exact ⟨by rw [HNO.out];rfl,Bt hb aO⟩
  ·have hyes:jW l=0:=by
    unfold jW;rw [if_pos];rw [bZ];intro x hx;obtain ⟨j,hj,rfl⟩:=List.getElem_of_mem hx;exact HK.out j hj zo
   have Yd:=zh hyes;clear hyes;obtain rfl:k=l.length:=by omega
   go_wp2_with fail
   go_ret
   exact ⟨by rw [Yd.out];rfl,hb⟩
end Go.Proofs.light
namespace Go.Proofs.light
open Go Go.RowKit Go.Shelf Go.SW Go.Num Go.Mem Go.Proofs Go.Dec Go.d9
attribute [local go_sem] Oper.semAt_some
theorem WM (a b c d e f:ByteArray) (w:World):(Instr.index 40 (aB #[O a,O b,O c,O d,O e,O f]) (Z I 0)).run Tryz.prog w= .ok (aB #[O a,O b]) w:=by kernel_rfl
theorem WL (a b c d e f:ByteArray) (w:World):(Instr.index 40 (aB #[O a,O b,O c,O d,O e,O f]) (Z I 1)).run Tryz.prog w= .ok (aB #[O c,O d]) w:=by kernel_rfl
theorem WK (a b c d e f:ByteArray) (w:World):(Instr.index 40 (aB #[O a,O b,O c,O d,O e,O f]) (Z I 2)).run Tryz.prog w= .ok (aB #[O e,O f]) w:=by kernel_rfl
--iff light.numbers$1
theorem Fy (F:Fence) (n:Nat) (hf:F.fn 194) (hro:F.round=none) (hn:1≤n) (l Bs n₀:Nat) (a b c d e f:ByteArray) (J Jx:List (Fin 3)→World→Prop) (B₀:Nat) (hJ0:AbidesFrom B₀ J)
  (hY:∀ pre x W,J pre W→pre.length<3→YieldAt F (n - 1) Tryz.prog l (enc ⟨⟨a,b⟩,⟨c,d⟩,⟨e,f⟩⟩ x) W fun en W' =>
   (en= ah (aC true)∧J (pre++[x]) W'∧Below n₀ W W')∨(en= ah (aC false)∧Jx (pre++[x]) W'))
  (W:World) (hn₀:n₀≤W.heap.size) (hBs:∀ o,W.cell? ⟨Bs,o,none⟩=#[Value.string a,O b,O c,O d,O e,O f][o]?) (h0:J [] W) :
  CallsIn F n Tryz.prog 194 #[.func (.yield l) #[] #[],au (some ⟨Bs,0,none⟩)] W fun en W'=>(∃ v,en= ah v) ∧
   ((∃ ys,ys=upto 3 (aG _)∧J ys W')∨(∃ pre,True∧Jx pre W')):=by
 have i0:=WM a b c d e f;have i1:=WL a b c d e f;have i2:=WK a b c d e f;refine callsIn_of_wp Tryz.func194 rfl hf ?_ hro;simp only [Tryz.ntmps194,List.size_toArray,aV,List.length_nil,Nat.reduceAdd,Nat.reduceSub,Array.replicate_succ,Array.replicate_zero,List.push_toArray,List.append_toArray,List.nil_append,bB]
 gi_wp2
 gi_loopw [6] (fun i wr=>∃ (k:Nat) (hk:k≤3),i= Z I k∧J (upto k hk) wr∧Below n₀ W wr)
  (fun i _=>3 - (intOf i).toNat)
 case atStart=>exact ⟨0,Nat.zero_le _,rfl,h0,Below.refl _ _⟩
 case round =>
  obtain ⟨k,hk,rfl,hJs,hnx⟩:=hrel
  by_cases hlt:k<3
  ·have hkk:k=0∨k=1∨k=2:=by omega
   rcases hkk with rfl|rfl|rfl
   ·have hJ1:J (upto 0 hk) (wr.alloc (.cells #[O a,O b] 38)):=hJ0 _ _ _ none hJs (World.grownBy_alloc _ _ none) (fun r e=>by cases e);have hB1:Below n₀ W (wr.alloc (.cells #[O a,O b] 38)):=hnx.alloc (ay hn₀ hnx.size) _;obtain ⟨fn,tmps,assign,body,hy,hR⟩:=hY _ ⟨0,hlt⟩ _ hJ1 (by rw [jd];exact hlt);have hy2:(Instr.yield l #[Value.int I 0,Value.agg #[Value.string a,Value.string b]]).run Tryz.prog (wr.alloc (.cells #[O a,O b] 38))=_:=hy;clear hy hY
    gi_wp2
    refine hR.mono ?_;rintro e W3 (⟨rfl,hJ3,hk3⟩|⟨rfl,hJx3⟩)
    ·gi_wp2
     go_roundw
     case rel=>exact ⟨0+1,hlt,by simp,by rw [oQ];exact hJ3,hB1.trans hk3⟩
     case measure=>simp [intOf]
    ·gi_wp2
     refine bodyPost_ret (results_none rfl _ _ _) rfl ?_;exact ⟨⟨_,rfl⟩,.inr ⟨_,trivial,hJx3⟩⟩
   ·have hJ1:J (upto 1 hk) (wr.alloc (.cells #[O c,O d] 38)):=hJ0 _ _ _ none hJs (World.grownBy_alloc _ _ none) (fun r e=>by cases e);have hB1:Below n₀ W (wr.alloc (.cells #[O c,O d] 38)):=hnx.alloc (ay hn₀ hnx.size) _;obtain ⟨fn,tmps,assign,body,hy,hR⟩:=hY _ ⟨1,hlt⟩ _ hJ1 (by rw [jd];exact hlt);have hy2:(Instr.yield l #[Value.int I 1,Value.agg #[Value.string c,Value.string d]]).run Tryz.prog (wr.alloc (.cells #[O c,O d] 38))=_:=hy;clear hy hY
    gi_wp2
    refine hR.mono ?_;rintro e W3 (⟨rfl,hJ3,hk3⟩|⟨rfl,hJx3⟩)
    ·gi_wp2
     go_roundw
     case rel=>exact ⟨1+1,hlt,by simp,by rw [oQ];exact hJ3,hB1.trans hk3⟩
     case measure=>simp [intOf]
    ·gi_wp2
     refine bodyPost_ret (results_none rfl _ _ _) rfl ?_;exact ⟨⟨_,rfl⟩,.inr ⟨_,trivial,hJx3⟩⟩
   ·have hJ1:J (upto 2 hk) (wr.alloc (.cells #[O e,O f] 38)):=hJ0 _ _ _ none hJs (World.grownBy_alloc _ _ none) (fun r e=>by cases e);have hB1:Below n₀ W (wr.alloc (.cells #[O e,O f] 38)):=hnx.alloc (ay hn₀ hnx.size) _;obtain ⟨fn,tmps,assign,body,hy,hR⟩:=hY _ ⟨2,hlt⟩ _ hJ1 (by rw [jd];exact hlt);have hy2:(Instr.yield l #[Value.int I 2,Value.agg #[Value.string e,Value.string f]]).run Tryz.prog (wr.alloc (.cells #[O e,O f] 38))=_:=hy;clear hy hY
    gi_wp2
    refine hR.mono ?_;rintro e W3 (⟨rfl,hJ3,hk3⟩|⟨rfl,hJx3⟩)
    ·gi_wp2
     go_roundw
     case rel=>exact ⟨2+1,hlt,by simp,by rw [oQ];exact hJ3,hB1.trans hk3⟩
     case measure=>simp [intOf]
    ·gi_wp2
     refine bodyPost_ret (results_none rfl _ _ _) rfl ?_;exact ⟨⟨_,rfl⟩,.inr ⟨_,trivial,hJx3⟩⟩
  ·obtain rfl:k=3:=by omega
   clear hY
   gi_wp2
   go_end0
   exact ⟨⟨_,rfl⟩,.inl ⟨_,rfl,hJs⟩⟩
--fi
theorem zD (F:Fence) (n:Nat) (hf:F.fn 125) (hro:F.round=none) (t:gJ) (w:World) :
  CallsIn F n Tryz.prog 125 #[t.v] w fun e w'=>e= ah (.func (.func 194) #[] #[au (some ⟨w.heap.size,0,none⟩)])∧w'=w.alloc (.cells t.cells 40):=by
 obtain ⟨⟨a,b⟩,⟨c,d⟩,⟨e,f⟩⟩:=t;simp only [gJ.v,gJ.cells];refine callsIn_of_wp Tryz.func125 rfl hf ?_ hro;simp only [Tryz.ntmps125,List.size_toArray,aV,List.length_nil,Nat.reduceAdd,Nat.reduceSub,Array.replicate_succ,Array.replicate_zero,List.push_toArray,List.append_toArray,List.nil_append,bB]
 gi_wp2
 go_ret
 exact ⟨rfl,rfl⟩
theorem tF (F:Fence) (n:Nat) (hf:F.fn 194) (hro:F.round=none) (hn:1≤n) (Bs n₀:Nat) (t:gJ) (w:World) (hn₀:n₀≤w.heap.size) (hx:aA w Bs t.cells 40) :
  SeqStopsK F n Tryz.prog 194 #[au (some ⟨Bs,0,none⟩)] (enc t) (Below n₀) (fun ys=>ys=upto 3 (aG _)) (fun _=>True) 3 w:=fun l J Jx W hW hJ _ hY hJ0=>by
 obtain ⟨⟨a,b⟩,⟨c,d⟩,⟨e,f⟩⟩:=t;exact Fy F n hf hro hn l Bs n₀ a b c d e f J Jx _ hJ hY W (ay hn₀ hW.size) (fun o=>(hx.later hW).cell o) hJ0
attribute [local go_sem] Oper.semAt_some
theorem fC {W W':World} (h:Below W.heap.size W W'):KeepsOthers W W' :=
 ⟨h.size,fun k o hk _=>(h.block k (Array.getElem?_eq_some_iff.1 hk).1).trans hk⟩
theorem gD {W W':World} {row:Option Nat} {b:Nat} {cs:Array Value} {T:TypeId} (h:aA W b cs T) (hg:W.grownBy W' row) (hr:∀ r,row=some r→∃ o:Obj,W.heap[r]? =some o∧o.isCells=false):aA W' b cs T:=by
 unfold aA at *;rw [hg.block b (Array.getElem?_eq_some_iff.1 h).1 ?_]
 ·exact h
 ·intro e;obtain ⟨o,ho,hc⟩:=hr b e.symm;rw [h] at ho;cases ho
  cases hc
def Du (t:gJ):Int:=if jW t.list=0 then (if t.list.all (fun f=>decide (0≤(nU f).1)) then 0 else 2) else 20
theorem gJ.frs {w:World} {b:Nat} {t:gJ} {T:TypeId} (h:aA w b t.cells T):qM w T (aj (some ⟨b,0,none⟩) 3 3) t.list:=by
 refine ⟨some ⟨b,0,none⟩,3,rfl,aG _,by omega,(fun h=>by cases h),fun ad h'=>?_⟩;cases h'
 refine ⟨rfl,t.cells,h,fun i hi=>?_⟩;have:i<3:=hi;have hc:i=0∨i=1∨i=2:=by omega
 rcases hc with rfl|rfl|rfl<;>exact ⟨rfl,rfl⟩
theorem jJ (t:gJ) (w:World):Calls Tryz.prog 124 #[t.v] w fun e w'=>e= ah (Z I (Du t))∧Below w.heap.size w w':=by
 have NA:Hid (∀ W b,aA W b t.cells 40→Calls Tryz.prog 193 #[aj (some ⟨b,0,none⟩) 3 3] W (fun e w'=>e= ah (Z I (jW t.list))∧Below W.heap.size W w')):=zh fun W b h=>Dg (aj (some ⟨b,0,none⟩) 3 3) t.list 40 W (gJ.frs h);have HNU:Hid (∀ w,CallsIn Fence.wide 2 Tryz.prog 125 #[t.v] w fun e w'=>e= ah (.func (.func 194) #[] #[au (some ⟨w.heap.size,0,none⟩)])∧w'=w.alloc (.cells t.cells 40)):=zh (zD Fence.wide 2 trivial rfl t);have Lb:Hid (∀ x:Fin 3,∀ w,Calls Tryz.prog 75 #[(t.get x.1).v] w (fun e w'=>e= ah (dw.pair (nU (t.get x.1)))∧Below w.heap.size w w')):=zh fun x=>dw.vB _;unfold Du;generalize Mx:jW t.list=ck at *;have hck:ck=0∨ck=20:=by rw [← Mx];unfold jW;split<;>simp
 obtain ⟨z,Ez⟩:∃ y:Int,Hid ((if t.list.all (fun f=>decide (0≤(nU f).1)) then 0 else 2)=y):=⟨_,zh rfl⟩;rw [Ez.out];refine (callsIn_wide (n:=3)).1 ?_;refine callsIn_of_wp_marks Tryz.func124 rfl trivial ?_ rfl;simp only [Tryz.ntmps124,List.size_toArray,aV,List.length_nil,Nat.reduceAdd,Nat.reduceSub,Array.replicate_succ,Array.replicate_zero,List.push_toArray,List.append_toArray,List.nil_append,bB];obtain ⟨⟨a,b⟩,⟨c,d⟩,⟨e,f⟩⟩:=t;simp only [gJ.v,gJ.cells] at *;obtain ⟨wa,NG⟩:∃ y:World,Hid ((w.alloc (.cells #[O a,O b,O c,O d,O e,O f] 40)).alloc (.cells #[Z I 0] 28)=y):=⟨_,zh rfl⟩;have hba:aA wa w.heap.size #[O a,O b,O c,O d,O e,O f] 40:=by rw [← NG.out];exact aY
 have hbr:aA wa (w.heap.size+1) #[Z I 0] 28:=by rw [← NG.out];exact aY
 have hB1:Below w.heap.size w wa:=by rw [← NG.out];exact aO
 have Yo:=zh hba;have HBR:=zh hbr;have HB1:=zh hB1;clear hba hbr hB1
 rcases hck with rfl|rfl
 ·rw [if_pos rfl];clear Mx
  gi_wp2_with (refine ⟨trivial,?_⟩;gi_at_call 193;rw [NG.out];refine (callsIn_wide.2 (NA.out _ _ Yo.out)).mono ?_;rintro e w1 ⟨rfl,hc1⟩;have hb0:=Yo.out.later hc1;have c0:=hb0.cell;have hb1:=HBR.out.later hc1;have c1:=hb1.cell;have f1:=hb1.free)
  gi_wp2_with (refine ⟨trivial,?_⟩;gi_at_call 125;refine (HNU.out _).mono ?_;rintro e w' ⟨rfl,rfl⟩)
  have hB2:Below w.heap.size w w1:=HB1.out.trans (hc1.mono HB1.out.size);obtain ⟨w2,Ut⟩:∃ y:World,Hid (w1.alloc (.cells #[O a,O b,O c,O d,O e,O f] 40)=y):=⟨_,zh rfl⟩;rw [Ut.out];have hbx:aA w2 w1.heap.size #[O a,O b,O c,O d,O e,O f] 40:=by rw [← Ut.out];exact aY
  have hb1':aA w2 (w.heap.size+1) #[Z I 0] 28:=by rw [← Ut.out];exact aY
  have hB0:Below w.heap.size w w2:=by rw [← Ut.out];exact hB2.alloc hB2.size _
  refine wpIn_rangeFunc_ownH (α:=Fin 3) rfl zo (gf:=194) (lb:=#[au (some ⟨w1.heap.size,0,none⟩)]) rfl trivial (enters_of Tryz.func194 zk rfl)
   (tF Fence.wide 2 trivial rfl zo w1.heap.size w.heap.size ⟨⟨a,b⟩,⟨c,d⟩,⟨e,f⟩⟩ w2 hB0.size hbx) belowK_t (belowK_b hB0.size) (Below.refl _ _) (fun _=>rfl)
   (fun pre W=>(Hid (∀ x∈pre,decide (0≤(nU (gJ.get ⟨⟨a,b⟩,⟨c,d⟩,⟨e,f⟩⟩ x.1)).1)=true)∧aA W (w.heap.size+1) #[Z I 0] 28)∧Below w.heap.size w W)
   (fun c' pre W=>(c'= .ret∧Hid (∃ x:Fin 3,decide (0≤(nU (gJ.get ⟨⟨a,b⟩,⟨c,d⟩,⟨e,f⟩⟩ x.1)).1)=false)∧aA W (w.heap.size+1) #[Z I 2] 28)∧Below w.heap.size w W)
   (OwnFrom.and (Own.from (fun s A B row hs hg hr=>⟨hs.1,gD hs.2 hg hr⟩) _) (ownFrom_below (aG _) hB0.size))
   (fun c=>OwnFrom.and (Own.from (fun s A B row hs hg hr=>⟨hs.1,hs.2.1,gD hs.2.2 hg hr⟩) _) (ownFrom_below (aG _) hB0.size))
   ⟨⟨zh zi,hb1'⟩,hB0⟩ (fun x a' W=>∃ u15 u16 B,a'={ tmps:=#[Value.agg #[Value.string a,Value.string b,Value.string c,Value.string d,Value.string e,Value.string f],
        Value.pointer (some { block:=w.heap.size,off:=0 }),
        Value.pointer (some { block:=w.heap.size+1,off:=0 }),Value.int I 0,undef,au (some ⟨B,0,none⟩),
        undef,undef,Value.slice (some { block:=w.heap.size,off:=0 }) 3 3,Value.int I 0,
        Value.int I 0,Value.bool false,undef,
        Value.agg
         #[Value.string a,Value.string b,Value.string c,Value.string d,Value.string e,Value.string f],
        .func (.func 194) #[] #[au (some ⟨w1.heap.size,0,none⟩)],u15,u16,undef,undef,undef,undef,undef,undef,undef],defers:=[] }∧aA W B #[O (gJ.get ⟨⟨a,b⟩,⟨c,d⟩,⟨e,f⟩⟩ x.1).n,O (gJ.get ⟨⟨a,b⟩,⟨c,d⟩,⟨e,f⟩⟩ x.1).d] 38) ?hAx ?assign ?body ?done ?stop
  case hAx =>
   intro x a'
   exact Own.from (fun s A B row hs hg hr=>by
    obtain ⟨u1,u2,B',h1,h2⟩:=hs;exact ⟨u1,u2,B',h1,gD h2 hg hr⟩) _
  case assign =>
   intro l pre x W K hI hK;unfold enc Fr.v
   gi_wp2
   exact hK _ _ ((fC aO).from _) ((Below.refl _ W).alloc hI.2.size _) ⟨⟨hI.1.1,hI.1.2.later aO⟩,hI.2.alloc hI.2.size _⟩ ⟨_,_,_,rfl,aY⟩
  case body =>
   rintro l pre x a' W hl hr ⟨⟨hp,hb2⟩,hB⟩ ⟨u1,u2,B',rfl,WT⟩ _;have hsx:=Lb.out x;obtain ⟨y,Ey⟩:∃ y:Fr,Hid (gJ.get ⟨⟨a,b⟩,⟨c,d⟩,⟨e,f⟩⟩ x.1=y):=⟨_,zh rfl⟩;rw [Ey.out] at WT hsx;obtain ⟨s,t⟩:=y;obtain ⟨q,Eq⟩:∃ q:Int × Int,Hid (nU ⟨s,t⟩=q):=⟨_,zh rfl⟩;rw [Eq.out] at hsx;obtain ⟨q1,q2⟩:=q;unfold dw.pair Fr.v at hsx
   dsimp only at hsx WT
   have HSX:=zh hsx;clear hsx;have c3:=WT.cell
   by_cases hq:q1<0
   ·have HQ:=zh hq;have b1:decide (q1<0)=true:=decide_eq_true hq;clear hq
    gi_wp2_with (refine ⟨trivial,?_⟩;gi_at_call 75;refine (CallsIn.inRound l (callsIn_wide.2 (HSX.out _))).mono ?_;rintro e w1 ⟨rfl,hc1⟩;have hb3:=hb2.later hc1;have c2:=hb3.cell;have f2:=hb3.free)
    refine ⟨(((fC hc1).trans (KeepsOthers.setCell _ _ _)).from _),⟨⟨rfl,zh ⟨x,?_⟩,hb3.set 0 _⟩,(hB.trans (hc1.mono hB.size)).setCell zi _⟩⟩;rw [Ey.out,Eq.out]
    simpa using HQ.out
   ·have HQ:=zh hq;have b1:decide (q1<0)=false:=decide_eq_false hq;clear hq
    gi_wp2_with (refine ⟨trivial,?_⟩;gi_at_call 75;refine (CallsIn.inRound l (callsIn_wide.2 (HSX.out _))).mono ?_;rintro e w1 ⟨rfl,hc1⟩;have hb3:=hb2.later hc1)
    refine ⟨(fC hc1).from _,hc1.mono hB.size,⟨⟨zh fun y hy=>?_,hb3⟩,hB.trans (hc1.mono hB.size)⟩⟩
    rcases List.mem_append.1 hy with h|h
    ·exact hp.out y h
    ·rw [List.mem_singleton] at h;subst h;rw [Ey.out,Eq.out];have:=HQ.out;simp
     omega
  case done =>
   rintro D ys W hD rfl ⟨⟨hp,hb1⟩,hB⟩ hK;have c1:=hb1.cell;have f1:=hb1.free
   have hz:z=0:=by
    rw [← Ez.out,if_pos];rw [bZ];intro r hr;have h0:=hp.out ⟨0,by omega⟩ (by unfold upto;rw [List.mem_ofFn];exact ⟨⟨0,by omega⟩,rfl⟩);have h1:=hp.out ⟨1,by omega⟩ (by unfold upto;rw [List.mem_ofFn];exact ⟨⟨1,by omega⟩,rfl⟩);have h2:=hp.out ⟨2,by omega⟩ (by unfold upto;rw [List.mem_ofFn];exact ⟨⟨2,by omega⟩,rfl⟩);simp only [gJ.list,cK,gG,or_false] at hr
    rcases hr with rfl|rfl|rfl
    ·exact h0
    ·exact h1
    ·exact h2
   have HZ:=zh hz;clear hz
   gi_wp2
   have hb2:=hb1.set 0 (Z I 0);have hK':=(KeepsOthers.setCell W ⟨w.heap.size+1,0,none⟩ (Z I 0)).same D _ hK rfl;refine ⟨by simp,.inl ⟨_,_,rfl,run_takeDeferred hK',?_⟩⟩;have hb3:=gD hb2 (grownBy_putObj' _ D (.deferred none)) (fun r e=>by cases e;exact ⟨_,hK',rfl⟩);have kK:=hb3.cell 0;refine ⟨Z I 0,?_,by rw [HZ.out],(hB.setCell (p:=⟨w.heap.size+1,0,none⟩) zi _).trans (belowK_b (w:=w) (aG _) _ D _ _ (by have:=hB0.size;omega) hK' rfl rfl)⟩;simp [results,Tryz.f124,go_sem,kK]
  case stop =>
   rintro D c' pre W hD hpre ⟨⟨rfl,hin,hb1⟩,hB⟩ hK
   have hz:z=2:=by
    rw [← Ez.out,if_neg];intro h;obtain ⟨x,hx⟩:=hin.out;rw [bZ] at h;have hx3:x.1=0∨x.1=1∨x.1=2:=by omega
    have:=h (gJ.get ⟨⟨a,b⟩,⟨c,d⟩,⟨e,f⟩⟩ x.1) (by rcases hx3 with e|e|e<;>rw [e]<;>simp [gJ.list,gJ.get]);rw [this] at hx;cases hx
   have HZ:=zh hz;clear hz
   gi_wp2
   refine ⟨by simp,.inl ⟨_,_,rfl,run_takeDeferred hK,?_⟩⟩;have hb3:=gD hb1 (grownBy_putObj' _ D (.deferred none)) (fun r e=>by cases e;exact ⟨_,hK,rfl⟩);have kK:=hb3.cell 0;refine ⟨Z I 2,?_,by rw [HZ.out],hB.trans (belowK_b (w:=w) (aG _) W D _ _ (by have:=hB0.size;omega) hK rfl rfl)⟩;simp [results,Tryz.f124,go_sem,kK]
 ·rw [if_neg zd];clear Mx
  gi_wp2_with (refine ⟨trivial,?_⟩;gi_at_call 193;rw [NG.out];refine (callsIn_wide.2 (NA.out _ _ Yo.out)).mono ?_;rintro e w1 ⟨rfl,hc1⟩;have hb0:=Yo.out.later hc1;have c0:=hb0.cell;have hb1:=HBR.out.later hc1;have c1:=hb1.cell;have f1:=hb1.free)
  have c5:=(hb1.set 0 (Z I 20)).cell 0;refine ⟨Z I 20,?_,rfl,(HB1.out.trans (hc1.mono HB1.out.size)).setCell zi _⟩;simp [results,Tryz.f124,go_sem,c5]
attribute [local go_sem] Oper.semAt_some
def qK (t:gJ):Int:=if Du t=0 then (if t.list.all (fun f=>decide ((nU f).1≠0)) then 0 else 2) else Du t
theorem pK (t:gJ) (w:World):Calls Tryz.prog 68 #[t.v] w fun e w'=>e= ah (Z I (qK t))∧Below w.heap.size w w':=by
 have NA:Hid (∀ W,Calls Tryz.prog 124 #[t.v] W (fun e w'=>e= ah (Z I (Du t))∧Below W.heap.size W w')):=zh fun W=>jJ t W;have HNU:Hid (∀ w,CallsIn Fence.wide 2 Tryz.prog 125 #[t.v] w fun e w'=>e= ah (.func (.func 194) #[] #[au (some ⟨w.heap.size,0,none⟩)])∧w'=w.alloc (.cells t.cells 40)):=zh (zD Fence.wide 2 trivial rfl t);have Lb:Hid (∀ x:Fin 3,∀ w,Calls Tryz.prog 75 #[(t.get x.1).v] w (fun e w'=>e= ah (dw.pair (nU (t.get x.1)))∧Below w.heap.size w w')):=zh fun x=>dw.vB _;unfold qK;generalize Mx:Du t=ck at *;have hck:ck=0∨ck≠0:=by omega
 obtain ⟨z,Ez⟩:∃ y:Int,Hid ((if t.list.all (fun f=>decide ((nU f).1≠0)) then 0 else 2)=y):=⟨_,zh rfl⟩;rw [Ez.out];refine (callsIn_wide (n:=3)).1 ?_;refine callsIn_of_wp_marks Tryz.func68 rfl trivial ?_ rfl;simp only [Tryz.ntmps68,List.size_toArray,aV,List.length_nil,Nat.reduceAdd,Nat.reduceSub,Array.replicate_succ,Array.replicate_zero,List.push_toArray,List.append_toArray,List.nil_append,bB];obtain ⟨⟨a,b⟩,⟨c,d⟩,⟨e,f⟩⟩:=t;simp only [gJ.v,gJ.cells] at *;obtain ⟨wa,NG⟩:∃ y:World,Hid ((w.alloc (.cells #[O a,O b,O c,O d,O e,O f] 40)).alloc (.cells #[Z I 0] 28)=y):=⟨_,zh rfl⟩;have hba:aA wa w.heap.size #[O a,O b,O c,O d,O e,O f] 40:=by rw [← NG.out];exact aY
 have hbr:aA wa (w.heap.size+1) #[Z I 0] 28:=by rw [← NG.out];exact aY
 have hB1:Below w.heap.size w wa:=by rw [← NG.out];exact aO
 have Yo:=zh hba;have c00:=hba.cell;rw [← NG.out] at c00;have HBR:=zh hbr;have HB1:=zh hB1;clear hba hbr hB1
 rcases hck with rfl|hck
 ·rw [if_pos rfl];clear Mx
  gi_wp2_with (refine ⟨trivial,?_⟩;gi_at_call 124;rw [NG.out];refine (callsIn_wide.2 (NA.out _)).mono ?_;rintro e w1 ⟨rfl,hc1⟩;have hb0:=Yo.out.later hc1;have c0:=hb0.cell;have hb1:=HBR.out.later hc1;have c1:=hb1.cell;have f1:=hb1.free)
  gi_wp2_with (refine ⟨trivial,?_⟩;gi_at_call 125;refine (HNU.out _).mono ?_;rintro e w' ⟨rfl,rfl⟩)
  have hB2:Below w.heap.size w w1:=HB1.out.trans (hc1.mono HB1.out.size);obtain ⟨w2,Ut⟩:∃ y:World,Hid (w1.alloc (.cells #[O a,O b,O c,O d,O e,O f] 40)=y):=⟨_,zh rfl⟩;rw [Ut.out];have hbx:aA w2 w1.heap.size #[O a,O b,O c,O d,O e,O f] 40:=by rw [← Ut.out];exact aY
  have hb1':aA w2 (w.heap.size+1) #[Z I 0] 28:=by rw [← Ut.out];exact aY
  have hB0:Below w.heap.size w w2:=by rw [← Ut.out];exact hB2.alloc hB2.size _
  refine wpIn_rangeFunc_ownH (α:=Fin 3) rfl zo (gf:=194) (lb:=#[au (some ⟨w1.heap.size,0,none⟩)]) rfl trivial (enters_of Tryz.func194 zk rfl)
   (tF Fence.wide 2 trivial rfl zo w1.heap.size w.heap.size ⟨⟨a,b⟩,⟨c,d⟩,⟨e,f⟩⟩ w2 hB0.size hbx) belowK_t (belowK_b hB0.size) (Below.refl _ _) (fun _=>rfl)
   (fun pre W=>(Hid (∀ x∈pre,decide ((nU (gJ.get ⟨⟨a,b⟩,⟨c,d⟩,⟨e,f⟩⟩ x.1)).1≠0)=true)∧aA W (w.heap.size+1) #[Z I 0] 28)∧Below w.heap.size w W)
   (fun c' pre W=>(c'= .ret∧Hid (∃ x:Fin 3,decide ((nU (gJ.get ⟨⟨a,b⟩,⟨c,d⟩,⟨e,f⟩⟩ x.1)).1≠0)=false)∧aA W (w.heap.size+1) #[Z I 2] 28)∧Below w.heap.size w W)
   (OwnFrom.and (Own.from (fun s A B row hs hg hr=>⟨hs.1,gD hs.2 hg hr⟩) _) (ownFrom_below (aG _) hB0.size))
   (fun c=>OwnFrom.and (Own.from (fun s A B row hs hg hr=>⟨hs.1,hs.2.1,gD hs.2.2 hg hr⟩) _) (ownFrom_below (aG _) hB0.size))
   ⟨⟨zh zi,hb1'⟩,hB0⟩ (fun x a' W=>∃ u15 u16 B,a'={ tmps:=#[Value.agg #[Value.string a,Value.string b,Value.string c,Value.string d,Value.string e,Value.string f],
        Value.pointer (some { block:=w.heap.size,off:=0 }),
        Value.pointer (some { block:=w.heap.size+1,off:=0 }),Value.int I 0,undef,au (some ⟨B,0,none⟩),
        undef,undef,Value.agg #[Value.string a,Value.string b,Value.string c,Value.string d,Value.string e,Value.string f],Value.int I 0,
        Value.int I 0,Value.bool false,undef,
        Value.agg
         #[Value.string a,Value.string b,Value.string c,Value.string d,Value.string e,Value.string f],
        .func (.func 194) #[] #[au (some ⟨w1.heap.size,0,none⟩)],u15,u16,undef,undef,undef,undef,undef,undef,undef],defers:=[] }∧aA W B #[O (gJ.get ⟨⟨a,b⟩,⟨c,d⟩,⟨e,f⟩⟩ x.1).n,O (gJ.get ⟨⟨a,b⟩,⟨c,d⟩,⟨e,f⟩⟩ x.1).d] 38) ?hAx ?assign ?body ?done ?stop
  case hAx =>
   intro x a'
   exact Own.from (fun s A B row hs hg hr=>by
    obtain ⟨u1,u2,B',h1,h2⟩:=hs;exact ⟨u1,u2,B',h1,gD h2 hg hr⟩) _
  case assign =>
   intro l pre x W K hI hK;unfold enc Fr.v
   gi_wp2
   exact hK _ _ ((fC aO).from _) ((Below.refl _ W).alloc hI.2.size _) ⟨⟨hI.1.1,hI.1.2.later aO⟩,hI.2.alloc hI.2.size _⟩ ⟨_,_,_,rfl,aY⟩
  case body =>
   rintro l pre x a' W hl hr ⟨⟨hp,hb2⟩,hB⟩ ⟨u1,u2,B',rfl,WT⟩ _;have hsx:=Lb.out x;obtain ⟨y,Ey⟩:∃ y:Fr,Hid (gJ.get ⟨⟨a,b⟩,⟨c,d⟩,⟨e,f⟩⟩ x.1=y):=⟨_,zh rfl⟩;rw [Ey.out] at WT hsx;obtain ⟨s,t⟩:=y;obtain ⟨q,Eq⟩:∃ q:Int × Int,Hid (nU ⟨s,t⟩=q):=⟨_,zh rfl⟩;rw [Eq.out] at hsx;obtain ⟨q1,q2⟩:=q;unfold dw.pair Fr.v at hsx
   dsimp only at hsx WT
   have HSX:=zh hsx;clear hsx;have c3:=WT.cell
   by_cases hq:q1=0
   ·have HQ:=zh hq;have b1:(q1 == 0)=true:=by simpa using hq
    clear hq
    gi_wp2_with (refine ⟨trivial,?_⟩;gi_at_call 75;refine (CallsIn.inRound l (callsIn_wide.2 (HSX.out _))).mono ?_;rintro e w1 ⟨rfl,hc1⟩;have hb3:=hb2.later hc1;have c2:=hb3.cell;have f2:=hb3.free)
    refine ⟨(((fC hc1).trans (KeepsOthers.setCell _ _ _)).from _),⟨⟨rfl,zh ⟨x,?_⟩,hb3.set 0 _⟩,(hB.trans (hc1.mono hB.size)).setCell zi _⟩⟩;rw [Ey.out,Eq.out]
    simpa using HQ.out
   ·have HQ:=zh hq;have b1:(q1 == 0)=false:=by simpa using hq
    clear hq
    gi_wp2_with (refine ⟨trivial,?_⟩;gi_at_call 75;refine (CallsIn.inRound l (callsIn_wide.2 (HSX.out _))).mono ?_;rintro e w1 ⟨rfl,hc1⟩;have hb3:=hb2.later hc1)
    refine ⟨(fC hc1).from _,hc1.mono hB.size,⟨⟨zh fun y hy=>?_,hb3⟩,hB.trans (hc1.mono hB.size)⟩⟩
    rcases List.mem_append.1 hy with h|h
    ·exact hp.out y h
    ·rw [List.mem_singleton] at h;subst h;rw [Ey.out,Eq.out]
     simpa using HQ.out
  case done =>
   rintro D ys W hD rfl ⟨⟨hp,hb1⟩,hB⟩ hK;have c1:=hb1.cell;have f1:=hb1.free
   have hz:z=0:=by
    rw [← Ez.out,if_pos];rw [bZ];intro r hr;have h0:=hp.out ⟨0,by omega⟩ (by unfold upto;rw [List.mem_ofFn];exact ⟨⟨0,by omega⟩,rfl⟩);have h1:=hp.out ⟨1,by omega⟩ (by unfold upto;rw [List.mem_ofFn];exact ⟨⟨1,by omega⟩,rfl⟩);have h2:=hp.out ⟨2,by omega⟩ (by unfold upto;rw [List.mem_ofFn];exact ⟨⟨2,by omega⟩,rfl⟩);simp only [gJ.list,cK,gG,or_false] at hr
    rcases hr with rfl|rfl|rfl
    ·exact h0
    ·exact h1
    ·exact h2
   have HZ:=zh hz;clear hz
   gi_wp2
   have hb2:=hb1.set 0 (Z I 0);have hK':=(KeepsOthers.setCell W ⟨w.heap.size+1,0,none⟩ (Z I 0)).same D _ hK rfl;refine ⟨by simp,.inl ⟨_,_,rfl,run_takeDeferred hK',?_⟩⟩;have hb3:=gD hb2 (grownBy_putObj' _ D (.deferred none)) (fun r e=>by cases e;exact ⟨_,hK',rfl⟩);have kK:=hb3.cell 0;refine ⟨Z I 0,?_,by rw [HZ.out],(hB.setCell (p:=⟨w.heap.size+1,0,none⟩) zi _).trans (belowK_b (w:=w) (aG _) _ D _ _ (by have:=hB0.size;omega) hK' rfl rfl)⟩;simp [results,Tryz.f68,go_sem,kK]
  case stop =>
   rintro D c' pre W hD hpre ⟨⟨rfl,hin,hb1⟩,hB⟩ hK
   have hz:z=2:=by
    rw [← Ez.out,if_neg];intro h;obtain ⟨x,hx⟩:=hin.out;rw [bZ] at h;have hx3:x.1=0∨x.1=1∨x.1=2:=by omega
    have:=h (gJ.get ⟨⟨a,b⟩,⟨c,d⟩,⟨e,f⟩⟩ x.1) (by rcases hx3 with e|e|e<;>rw [e]<;>simp [gJ.list,gJ.get]);rw [this] at hx;cases hx
   have HZ:=zh hz;clear hz
   gi_wp2
   refine ⟨by simp,.inl ⟨_,_,rfl,run_takeDeferred hK,?_⟩⟩;have hb3:=gD hb1 (grownBy_putObj' _ D (.deferred none)) (fun r e=>by cases e;exact ⟨_,hK,rfl⟩);have kK:=hb3.cell 0;refine ⟨Z I 2,?_,by rw [HZ.out],hB.trans (belowK_b (w:=w) (aG _) W D _ _ (by have:=hB0.size;omega) hK rfl rfl)⟩;simp [results,Tryz.f68,go_sem,kK]
 ·rw [if_neg hck];have b5:(ck != 0)=true:=by simpa using hck
  clear Mx
  gi_wp2_with (refine ⟨trivial,?_⟩;gi_at_call 124;rw [NG.out];refine (callsIn_wide.2 (NA.out _)).mono ?_;rintro e w1 ⟨rfl,hc1⟩;have hb0:=Yo.out.later hc1;have c0:=hb0.cell;have hb1:=HBR.out.later hc1;have c1:=hb1.cell;have f1:=hb1.free)
  have c5:=(hb1.set 0 (Z I ck)).cell 0;refine ⟨Z I ck,?_,rfl,(HB1.out.trans (hc1.mono HB1.out.size)).setCell zi _⟩;simp [results,Tryz.f68,go_sem,c5]
end Go.Proofs.light
namespace Go.Proofs.adapt
open Go Go.RowKit Go.SW Go.Num Go.Mem Go.Proofs Go.Dec Go.d9
def thrown (er:Int):Ending:=.panicked [{ v:=.iface 263 (aB #[Z I er]),recovered:=false }]
theorem jf (w:World):Calls Tryz.prog 196 #[Z I 0] w (fun e w'=>e= ah (aF #[])∧w'=w):=by
 go_enter Tryz.func196,Tryz.ntmps196
 go_wp2_with fail
 first|go_end0|refine bodyPost_ret (results_none rfl _ _ _) rfl ?_
 exact ⟨rfl,rfl⟩
theorem gP (er:Int) (h:er≠0) (w:World):Calls Tryz.prog 196 #[Z I er] w (fun e w'=>e=thrown er∧w'=w):=by
 have b1:(er != 0)=true:=by simp [h]
 clear h;go_enter Tryz.func196,Tryz.ntmps196
 go_wp2_with fail
 exact ⟨rfl,rfl,rfl⟩
def dD (w:World) (er:Int) (Rv:Value→World→Prop) (e:Ending) (w':World):Prop :=
 Below w.heap.size w w'∧((er=0∧∃ v,e= ah v∧Rv v w')∨(er≠0∧e=thrown er))
theorem dD.no {w w':World} {er:Int} {Rv:Value→World→Prop} (hb:Below w.heap.size w w') (h:er≠0):dD w er Rv (thrown er) w':=⟨hb,.inr ⟨h,rfl⟩⟩
theorem dD.yes {w w':World} {Rv:Value→World→Prop} {v:Value} (hb:Below w.heap.size w w') (h:Rv v w'):dD w 0 Rv (ah v) w':=⟨hb,.inl ⟨rfl,_,rfl,h⟩⟩
theorem oW (a:Fr) (w:World):Calls Tryz.prog 128 #[a.v,Z I 0] w (fun e w'=>e= ah a.v∧Below w.heap.size w w'):=by
 obtain ⟨s,t⟩:=a;unfold Fr.v;go_enter Tryz.func128,Tryz.ntmps128
 go_wp2_with fail
 refine (jf _).mono ?_;rintro e w1 ⟨rfl,rfl⟩;go_wp2_with fail
 refine iX rfl rfl aY Tryz.underlying38 rfl zk ?_;exact ⟨rfl,aO⟩
theorem r9 (a:Fr) (er:Int) (h:er≠0) (w:World):Calls Tryz.prog 128 #[a.v,Z I er] w (fun e w'=>e=thrown er∧Below w.heap.size w w'):=by
 obtain ⟨s,t⟩:=a;unfold Fr.v;have H:=zh h;clear h;go_enter Tryz.func128,Tryz.ntmps128
 go_wp2_with fail
 refine (gP er H.out _).mono ?_;rintro e w1 ⟨rfl,rfl⟩;exact ⟨rfl,rfl,aO⟩
theorem OW (a:Option Addr) (n c:Nat) (w:World):Calls Tryz.prog 216 #[aj a n c,Z I 0] w (fun e w'=>e= ah (aj a n c)∧w'=w):=by
 go_enter Tryz.func216,Tryz.ntmps216
 go_wp2_with fail
 refine (jf _).mono ?_;rintro e w1 ⟨rfl,rfl⟩;go_wp2_with fail
 go_ret
 exact ⟨rfl,rfl⟩
theorem Mf (a:Option Addr) (n c:Nat) (er:Int) (h:er≠0) (w:World):Calls Tryz.prog 216 #[aj a n c,Z I er] w (fun e w'=>e=thrown er∧w'=w):=by
 have H:=zh h;clear h;go_enter Tryz.func216,Tryz.ntmps216
 go_wp2_with fail
 refine (gP er H.out _).mono ?_;rintro e w1 ⟨rfl,rfl⟩;exact ⟨rfl,rfl,rfl⟩
theorem mI (z:Int) (w:World):Calls Tryz.prog 217 #[Z I z,Z I 0] w (fun e w'=>e= ah (Z I z)∧w'=w):=by
 go_enter Tryz.func217,Tryz.ntmps217
 go_wp2_with fail
 refine (jf _).mono ?_;rintro e w1 ⟨rfl,rfl⟩;go_wp2_with fail
 go_ret
 exact ⟨rfl,rfl⟩
theorem OX (a:Option Addr) (n c:Nat) (w:World):Calls Tryz.prog 275 #[aj a n c,Z I 0] w (fun e w'=>e= ah (aj a n c)∧w'=w):=by
 go_enter Tryz.func275,Tryz.ntmps275
 go_wp2_with fail
 refine (jf _).mono ?_;rintro e w1 ⟨rfl,rfl⟩;go_wp2_with fail
 go_ret
 exact ⟨rfl,rfl⟩
theorem Mi (a:Option Addr) (n c:Nat) (er:Int) (h:er≠0) (w:World):Calls Tryz.prog 275 #[aj a n c,Z I er] w (fun e w'=>e=thrown er∧w'=w):=by
 have H:=zh h;clear h;go_enter Tryz.func275,Tryz.ntmps275
 go_wp2_with fail
 refine (gP er H.out _).mono ?_;rintro e w1 ⟨rfl,rfl⟩;exact ⟨rfl,rfl,rfl⟩
theorem Ch (er:Int) (w:World):(Instr.typeAssert (.iface 263 (aB #[Z I er])) 20 263 true).run Tryz.prog w= .ok (aF #[aB #[Z I er],aC true]) w:=by kernel_rfl
theorem mO {w:World} {b:Nat} {cs cs':Array Value} {T:TypeId} (h:aA w b cs T) (e:cs=cs'):aA w b cs' T:=e ▸ h
def caught (er:Int) (rec:Bool):FrameMode:=.panicking [{ v:=.iface 263 (aB #[Z I er]),recovered:=rec }]
theorem Gq (p q:Addr) (w:World) :
  CallsD Tryz.prog 195 #[au (some p),au (some q)] .returning w fun e u' w'=>e= ah (aF #[])∧u'= .returning∧w'=w:=by
 refine callsD_of_wpS Tryz.func195 rfl fun c₀ cs hu=>?_;simp only [Tryz.ntmps195,List.size_toArray,aV,List.length_nil,Nat.reduceAdd,Nat.reduceSub,Array.replicate_succ,Array.replicate_zero,List.push_toArray,List.append_toArray,List.nil_append,bB];refine wpS_seq (wpS_region ?_);generalize hQ:Exit.thenS _ _=Q;simp [wpOpsS,go_sem,recoverD,hu]
 rw [← hQ];clear hQ;refine wpS_of_wp ?_;go_wp2_with fail
 cases c₀
 simp_all [bodyPostS,results,Tryz.results195]
theorem XB (b c:Nat) (v:Value) (z er:Int) (w:World) (hb:aA w b #[v] 126) (hc:aA w c #[Z I z] 28) :
  CallsD Tryz.prog 195 #[au (some ⟨b,0,none⟩),au (some ⟨c,0,none⟩)] (caught er false) w fun e u' w' =>
   e= ah (aF #[])∧u'=caught er true∧aA w' b #[aj none 0 0] 126∧aA w' c #[Z I er] 28∧∀ w0:World,w0.heap.size≤b→w0.heap.size≤c→Below w0.heap.size w0 w→Below w0.heap.size w0 w':=by
 unfold caught;refine callsD_of_wpS Tryz.func195 rfl fun c₀ cs hu=>?_;simp only [Tryz.ntmps195,List.size_toArray,aV,List.length_nil,Nat.reduceAdd,Nat.reduceSub,Array.replicate_succ,Array.replicate_zero,List.push_toArray,List.append_toArray,List.nil_append,bB];refine wpS_seq (wpS_region ?_);generalize hQ:Exit.thenS _ _=Q;simp [wpOpsS,go_sem,recoverD,hu]
 rw [← hQ];clear hQ;refine wpS_of_wp ?_;have cb:=hb.cell;have fb:=hb.free;have cc:=hc.cell;have fc:=hc.free;have lb:=hb.lt;have lc:=hc.lt;have hne:b≠c:=hb.ne hc zd;have hne2:c≠b:=fun e=>hne e.symm;have hta:=Ch er;obtain ⟨R,HR⟩:∃ R:Ending→FrameMode→World→Prop,Hid (R=fun e u' w'=>e= ah (aF #[])∧u'= .panicking [{ v:=.iface 263 (aB #[Z I er]),recovered:=true }]∧aA w' b #[aj none 0 0] 126∧aA w' c #[Z I er] 28∧∀ w0:World,w0.heap.size≤b→w0.heap.size≤c→Below w0.heap.size w0 w→Below w0.heap.size w0 w'):=⟨_,zh rfl⟩
 rw [← HR.out];go_wp2_with fail
 simp only [bodyPostS];refine ⟨trivial,_,rfl,_,results_none rfl _ _ _,?_⟩;rw [HR.out];refine ⟨rfl,rfl,?_,?_,fun w0 h1 h2 h3=>?_⟩
 ·apply mO
  ·exact aY
  ·simp only [List.setIfInBounds_toArray,aI,aJ]
 ·apply mO
  ·exact aY
  ·simp only [List.setIfInBounds_toArray,aI,aJ]
 ·exact aO
theorem Gr (p q:Addr) (w:World) :
  CallsD Tryz.prog 215 #[au (some p),au (some q)] .returning w fun e u' w'=>e= ah (aF #[])∧u'= .returning∧w'=w:=by
 refine callsD_of_wpS Tryz.func215 rfl fun c₀ cs hu=>?_;simp only [Tryz.ntmps215,List.size_toArray,aV,List.length_nil,Nat.reduceAdd,Nat.reduceSub,Array.replicate_succ,Array.replicate_zero,List.push_toArray,List.append_toArray,List.nil_append,bB];refine wpS_seq (wpS_region ?_);generalize hQ:Exit.thenS _ _=Q;simp [wpOpsS,go_sem,recoverD,hu]
 rw [← hQ];clear hQ;refine wpS_of_wp ?_;go_wp2_with fail
 cases c₀
 simp_all [bodyPostS,results,Tryz.results215]
theorem XC (b c:Nat) (s1 s2 s3 s4 s5 s6:ByteArray) (z er:Int) (w:World) (hb:aA w b #[O s1,O s2,O s3,O s4,O s5,O s6] 39) (hc:aA w c #[Z I z] 28) :
  CallsD Tryz.prog 215 #[au (some ⟨b,0,none⟩),au (some ⟨c,0,none⟩)] (caught er false) w fun e u' w' =>
   e= ah (aF #[])∧u'=caught er true∧aA w' b #[O ⟨#[]⟩,O ⟨#[]⟩,O ⟨#[]⟩,O ⟨#[]⟩,O ⟨#[]⟩,O ⟨#[]⟩] 39∧aA w' c #[Z I er] 28∧∀ w0:World,w0.heap.size≤b→w0.heap.size≤c→Below w0.heap.size w0 w→Below w0.heap.size w0 w':=by
 unfold caught;refine callsD_of_wpS Tryz.func215 rfl fun c₀ cs hu=>?_;simp only [Tryz.ntmps215,List.size_toArray,aV,List.length_nil,Nat.reduceAdd,Nat.reduceSub,Array.replicate_succ,Array.replicate_zero,List.push_toArray,List.append_toArray,List.nil_append,bB];refine wpS_seq (wpS_region ?_);generalize hQ:Exit.thenS _ _=Q;simp [wpOpsS,go_sem,recoverD,hu]
 rw [← hQ];clear hQ;refine wpS_of_wp ?_;have cb:=hb.cell;have fb:=hb.free;have cc:=hc.cell;have fc:=hc.free;have lb:=hb.lt;have lc:=hc.lt;have hne:b≠c:=hb.ne hc zd;have hne2:c≠b:=fun e=>hne e.symm;have hta:=Ch er;obtain ⟨R,HR⟩:∃ R:Ending→FrameMode→World→Prop,Hid (R=fun e u' w'=>e= ah (aF #[])∧u'= .panicking [{ v:=.iface 263 (aB #[Z I er]),recovered:=true }]∧aA w' b #[O ⟨#[]⟩,O ⟨#[]⟩,O ⟨#[]⟩,O ⟨#[]⟩,O ⟨#[]⟩,O ⟨#[]⟩] 39∧aA w' c #[Z I er] 28∧∀ w0:World,w0.heap.size≤b→w0.heap.size≤c→Below w0.heap.size w0 w→Below w0.heap.size w0 w'):=⟨_,zh rfl⟩
 rw [← HR.out];go_wp2_with fail
 simp only [bodyPostS];refine ⟨trivial,_,rfl,_,results_none rfl _ _ _,?_⟩;rw [HR.out];refine ⟨rfl,rfl,?_,?_,fun w0 h1 h2 h3=>?_⟩
 ·apply mO
  ·exact aY
  ·simp only [List.setIfInBounds_toArray,aI,aJ]
 ·apply mO
  ·exact aY
  ·simp only [List.setIfInBounds_toArray,aI,aJ]
 ·exact aO
end Go.Proofs.adapt
