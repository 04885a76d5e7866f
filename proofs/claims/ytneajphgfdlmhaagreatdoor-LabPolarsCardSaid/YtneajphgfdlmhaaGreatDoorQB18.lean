/- Lemmas for the proof. No condition. -/
import Derived.Test.YtneajphgfdlmhaaGreatDoorQB17
import Derived.RegionTactic
import Derived.ChangeAlike
set_option linter.unusedVariables false
set_option linter.unusedSimpArgs false
set_option maxRecDepth 100000
set_option maxHeartbeats 16000000
open Go.Ending renaming returned → aj
open Go.IntKind renaming i64 → I
open Go.Value renaming agg → au, bool → ak, int → Z, pointer → aB, slice → ah, string → O, tuple → aG
open List renaming all_eq_true → dX, cons_append → dh, getElem_mem → dY, length_cons → bg
open Nat renaming add_comm → iF, add_mul → dM, le_refl → aD, lt_of_le_of_lt → gN, lt_or_ge → aO, mul_le_mul_right → aZ, one_mul → gQ
namespace Go.Proofs.power
open Go Go.RowKit Go.Shelf Go.SW Go.Num Go.Mem Go.Proofs Go.Dec Go.gD Go.Proofs.whole Go.Proofs.dH
attribute [local go_sem] Oper.semAt_some
theorem gK {W W':World} (h:Below W.heap.size W W'):KeepsOthers W W' :=
 ⟨h.size,fun k o hk _=>(h.block k (Array.getElem?_eq_some_iff.1 hk).1).trans hk⟩
theorem iq {W W':World} {row:Option Nat} {b:Nat} {cs:Array Value} {T:TypeId} (h:aA W b cs T) (hg:W.grownBy W' row) (hr:∀ r,row=some r→∃ o:Obj,W.heap[r]? =some o∧o.isCells=false):aA W' b cs T:=by
 unfold aA at *;rw [hg.block b (Array.getElem?_eq_some_iff.1 h).1 ?_]
 ·exact h
 ·intro e;obtain ⟨o,ho,hc⟩:=hr b e.symm;rw [h] at ho;cases ho
  cases hc
theorem Fb {l:List Nat} {m:Nat} (h:∀ x∈l,x≤m):mJ l≤l.length*m^2:=by
 induction l with
 | nil=>exact Nat.zero_le _
 | cons x t ih =>
  rw [SQ,bg,dM,gQ,iF];exact Nat.add_le_add (ih fun y hy=>h y (List.mem_cons_of_mem _ hy)) (Nat.pow_le_pow_left (h x zi) 2)
theorem OB {l:List Nat} (h:∀ x∈l,x≤10^18) (h8:l.length≤8):kI (mJ l)=true:=by
 have h1:=Fb h;have h3:8*(10^18)^2<10^600:=by decide+kernel
 generalize (10^18)^2=m at *;have h2:l.length*m≤8*m:=aZ _ h8;exact xP.2 (gN h1 (gN h2 h3))
def los (bs:List (Int × Int)) (pre:List (Fin bs.length)):List Nat:=pre.map fun x=>vG bs[x.1]
def his (bs:List (Int × Int)) (pre:List (Fin bs.length)):List Nat:=pre.map fun x=>vN bs[x.1]
theorem Ju (bs:List (Int × Int)):los bs (upto bs.length (aD _))=bs.map vG:=by
 unfold los upto;rw [List.map_ofFn];refine List.ext_getElem zi fun i h1 h2=>?_;simp
theorem JH (bs:List (Int × Int)):his bs (upto bs.length (aD _))=bs.map vN:=by
 unfold his upto;rw [List.map_ofFn];refine List.ext_getElem zi fun i h1 h2=>?_;simp
theorem Jv (bs:List (Int × Int)) (pre:List (Fin bs.length)) (x:Fin bs.length):mJ (los bs (pre++[x]))=mJ (los bs pre)+vG bs[x.1]^2:=by
 unfold los;rw [List.map_append,vX];simp [mJ]
theorem JI (bs:List (Int × Int)) (pre:List (Fin bs.length)) (x:Fin bs.length):mJ (his bs (pre++[x]))=mJ (his bs pre)+vN bs[x.1]^2:=by
 unfold his;rw [List.map_append,vX];simp [mJ]
theorem WO (l m:List Nat) (hl:kI (mJ l)=true) (hm:kI (mJ m)=true) (w:World) (ht:jH.Pow w) (he:Er w) :
  Calls Tryz.prog 155 #[dW (mJ l:Nat),dW (mJ m:Nat),.func (.func 156) #[] #[]] w (fun e w'=>e= aj (d9 (Cb (sN l false) (sN m true)))∧Below w.heap.size w w'):=by
 have E1:=fun W (h:Below w.heap.size w W)=>KE (mJ l) false hl W (ht.later h) (he.later h);have E2:=fun W (h:Below w.heap.size w W)=>KE (mJ m) true hm W (ht.later h) (he.later h);simp only [QI] at E1 E2;unfold dW at *;rw [← Oz];exact Jl _ _ (.func (.func 156) #[] #[]) 156 #[] #[] _ _ w rfl E1 E2 rfl (fun args W=>by rfl)
def qQ (bs:List (Int × Int)):(Int × Int) × Int:=if bs.length=0 then ((0,0),2) else if 8<bs.length then ((0,0),3) else if okB bs=false then ((0,0),30) else Cb (sN (bs.map vG) false) (sN (bs.map vN) true)
theorem zG (a:Option Addr) (cap:Nat) (T:TypeId) (bs:List (Int × Int)) (h1:1≤bs.length) (h8:bs.length≤8) (hok:okB bs=true) (w:World) (hv:wY w T (ah a bs.length cap) bs) (ht:jH.Pow w) (he:Er w) :
  Calls Tryz.prog 71 #[ah a bs.length cap] w (fun e w'=>e= aj (d9 (Cb (sN (bs.map vG) false) (sN (bs.map vN) true)))∧Below w.heap.size w w'):=by
 have q1:((bs.length:Int) == 0)=false:=beq_eq_false_iff_ne.2 zo;have q2:decide ((8:Int)<(bs.length:Int))=false:=by simp;omega
 have HR:=zh hv;have HP:=zh ht;have HE:=zh he;have Vx:=zh hok;have HL:=zh h8
 have hread:∀ k (_:k<bs.length),∃ b off,a=some ⟨b,off,none⟩∧b<w.heap.size∧w.cell? ⟨b,off+k*2,none⟩=some (.int .i64 bs[k].1)∧w.cell? ⟨b,off+k*2+1,none⟩=some (.int .i64 bs[k].2):=by
  obtain ⟨a',cap',e, -, -, h⟩:=hv.read;cases e
  exact h
 have HRD:=zh hread;clear hread;clear hv ht he hok h8;obtain ⟨z,EZ⟩:∃ z,Cb (sN (bs.map vG) false) (sN (bs.map vN) true)=z:=⟨_,rfl⟩;rw [EZ];have HZ:=zh EZ;clear EZ;obtain ⟨⟨z1,z2⟩,z3⟩:=z;unfold d9;simp only;refine (callsIn_wide (n:=3)).1 ?_;refine callsIn_of_wp_marks Tryz.func71 rfl trivial ?_ rfl;simp only [Tryz.ntmps71,List.size_toArray,bg,List.length_nil,Nat.reduceAdd,Nat.reduceSub,Array.replicate_succ,Array.replicate_zero,List.push_toArray,List.append_toArray,List.nil_append,dh]
 gi_wp2
 refine K7 ?_
 gi_wp2
 refine wpIn_label ?_;obtain ⟨wx,EW,hz,R,E3,E⟩:=MW w #[Z I 0,Z I 0] 40 #[Z I 0] 43 #[Z I 0] 43;rw [EW];clear EW;obtain ⟨bx,eb⟩:∃ y,w.heap.size=y:=⟨_,rfl⟩;rw [eb] at R E3 E ⊢
 gi_wp2
 gi_loopw [20] (fun i wr=>∃ k:Nat,i= Z I k∧k≤bs.length∧Below w.heap.size w wr∧Hid (aA wr bx #[Z I 0,Z I 0] 40)∧Hid (aA wr (bx+1) #[Z I 0] 43)∧Hid (aA wr (bx+1+1) #[Z I 0] 43))
  (fun i _=>bs.length - (intOf i).toNat)
 case atStart=>exact ⟨0,rfl,Nat.zero_le _,hz,R,E3,E⟩
 case round =>
  clear R E3 E hz;obtain ⟨k,rfl,hk,hnx,R,E3,E⟩:=hrel
  have hw1:wrap64 ((k:Int)+1)=((k+1:Nat):Int):=by
   have:=HL.out;unfold wrap64;omega
  by_cases hlt:k<bs.length
  ·obtain ⟨b,off,rfl,hbl,hx1,hx2⟩:=HRD.out k hlt;have hc1:=(hnx.cell (p:=⟨b,off+k*2,none⟩) hbl).trans hx1;have hc2:=(hnx.cell (p:=⟨b,off+k*2+1,none⟩) hbl).trans hx2;clear hx1 hx2;have hv:iG bs[k].1 bs[k].2=true:=List.all_eq_true.1 Vx.out _ (dY hlt);have HC:=zh (fun W=>iT bs[k].1 bs[k].2 W);rw [hv,if_pos rfl] at HC;have HB:=zh hbl;clear hv hbl;generalize bs[k].1=y1 at *;generalize bs[k].2=y2 at *
   gi_wp2_with (refine ⟨trivial,?_⟩;gi_at_call 151;refine (callsIn_wide.2 (HC.out _)).mono ?_;rintro e w1 ⟨rfl,hc3⟩;have HN:=zh (hnx.alloc hnx.size (.cells #[Z I y1,Z I y2] 40));replace R:=(zh (R.out.alloc (.cells #[Z I y1,Z I y2] 40))).bl hc3;replace E3:=(zh (E3.out.alloc (.cells #[Z I y1,Z I y2] 40))).bl hc3;replace E:=(zh (E.out.alloc (.cells #[Z I y1,Z I y2] 40))).bl hc3;replace HN:=zh (Bt HN.out hc3);clear hc3 hnx hc1 hc2;have cE:=E.out.cell;have fE:=E.out.free;have lE:=E.out.lt)
   go_roundw
   case rel =>
    have hn:=HN.out;rw [eb] at hn;have r:=R.out;have e3:=E3.out;have e4:=E.out;rw [eb];exact ⟨k+1,by rw [hw1],by omega,aF,zh bf,zh bf,zh (e4.set 0 _)⟩
   case measure =>
    rw [hw1];simp only [intOf,Int.toNat_natCast];omega
  ·obtain rfl:k=bs.length:=by omega
   have hge:¬ bs.length<bs.length:=by omega
   have aA6:decide ((bs.length:Int)<(bs.length:Int))=false:=by simp
   have cE:=E.out.cell;have fE:=E.out.free;have lE:=E.out.lt
   gi_wp2_with (refine ⟨trivial,?_⟩;gi_at_call 153;refine (H9 2 _ _ _ _).mono ?_;rintro e w' ⟨rfl,rfl⟩)
   have aA0:=hnx;obtain ⟨wy,EW,hz,LO,HI,SB⟩:=MW wr #[O ⟨#[48]⟩] 30 #[O ⟨#[48]⟩] 30 #[ah a bs.length cap] 122;rw [EW];clear EW;obtain ⟨lb,el⟩:∃ y,wr.heap.size=y:=⟨_,rfl⟩;have hB0:Below w.heap.size w wy:=Bt hnx hz;have hlb:bx+1+1<lb:=by rw [← el];exact E.out.lt
   replace R:=R.bl hz;replace E3:=E3.bl hz;replace E:=E.bl hz;rw [el] at LO HI SB ⊢;clear cE fE lE hz hnx aA0;have z0:Value.string ⟨#[48]⟩=dW ((0:Nat):Int):=by kernel_rfl
   rw [z0] at LO HI;have aH4:=HL.out;have HBN:Hid (∀ x:Fin bs.length,iG bs[x.1].1 bs[x.1].2=true):=zh fun x=>List.all_eq_true.1 Vx.out _ (dY x.2)
   have Y9:Hid (∀ pre:List (Fin bs.length),pre.length≤bs.length→kI (mJ (los bs pre))=true):=zh fun pre hp=>OB (fun y hy=>by
    obtain ⟨x, -, rfl⟩:=List.mem_map.1 hy;have:=MR (HBN.out x);omega) (by unfold los;rw [List.length_map];omega)
   have Yo:Hid (∀ pre:List (Fin bs.length),pre.length≤bs.length→kI (mJ (his bs pre))=true):=zh fun pre hp=>OB (fun y hy=>by
    obtain ⟨x, -, rfl⟩:=List.mem_map.1 hy;exact (MR (HBN.out x)).2) (by unfold his;rw [List.length_map];omega)
   refine wpIn_rangeFunc_ownH (α:=Fin bs.length) rfl zo (gf:=230) (lb:=#[aB (some ⟨lb+1+1,0,none⟩)]) rfl trivial (enters_of Tryz.func230 zk rfl)
    (AP 2 zo (lb+1+1) w.heap.size (ah a bs.length cap) T bs Vx.out w wy SB.out.lt hB0.size ((SB.out.cell 0).trans rfl) HR.out (aD _) hB0) belowK_t (belowK_b hB0.size) (Below.refl _ _) (fun _=>rfl)
    (fun pre W=>(aA W bx #[Z I 0,Z I 0] 40∧aA W (bx+1) #[Z I 0] 43∧aA W (bx+1+1) #[Z I 0] 43∧aA W lb #[dW (mJ (los bs pre):Nat)] 30∧aA W (lb+1) #[dW (mJ (his bs pre):Nat)] 30)∧Below w.heap.size w W)
    (fun c' pre W=>False∧Below w.heap.size w W)
    (OwnFrom.and (Own.from (fun s A B row hs hg hr=>⟨iq hs.1 hg hr,iq hs.2.1 hg hr,iq hs.2.2.1 hg hr,iq hs.2.2.2.1 hg hr,iq hs.2.2.2.2 hg hr⟩) _) (ownFrom_below (aD _) hB0.size))
    (fun c=>OwnFrom.and (Own.from (fun s A B row hs hg hr=>hs) _) (ownFrom_below (aD _) hB0.size))
    ⟨⟨R.out,E3.out,E.out,LO.out,HI.out⟩,hB0⟩ (fun x a' W=>∃ u35 B,lb+1<B∧a'={ tmps:=#[Value.slice a bs.length cap,undef,aB (some ⟨bx,0,none⟩),aB (some ⟨bx+1,0,none⟩),aB (some ⟨bx+1+1,0,none⟩),undef,u6,aB (some ⟨lb,0,none⟩),aB (some ⟨lb+1,0,none⟩),aB (some ⟨B,0,none⟩),ah a bs.length cap,Z I bs.length,ak false,undef,ah a bs.length cap,Z I bs.length,ak false,undef,ah a bs.length cap,Z I bs.length,Z I bs.length,ak false,u22,u23,u24,u25,u26,u27,u28,Z I 0,ak false,undef,undef,ah a bs.length cap,.func (.func 230) #[] #[aB (some ⟨lb+1+1,0,none⟩)],u35,undef,undef,undef,undef,undef,undef,undef,undef,undef,undef,undef,undef,undef,undef,undef,undef,undef,undef,undef,undef,undef,undef,undef,undef,undef,undef,undef],defers:=[] }∧aA W B #[Z I ((vG bs[x.1]:Nat):Int),Z I ((vN bs[x.1]:Nat):Int)] 40) ?hAx ?assign ?body ?done ?stop
   case hAx =>
    intro x a'
    exact Own.from (fun s A B row hs hg hr=>by
     obtain ⟨u1,B',h0,h1,h2⟩:=hs;exact ⟨u1,B',h0,h1,iq h2 hg hr⟩) _
   case assign =>
    intro l pre x W K hI hK;unfold XF
    gi_wp2
    exact hK _ _ ((gK aF).from _) ((Below.refl _ W).alloc hI.2.size _) ⟨⟨hI.1.1.alloc _,hI.1.2.1.alloc _,hI.1.2.2.1.alloc _,hI.1.2.2.2.1.alloc _,hI.1.2.2.2.2.alloc _⟩,hI.2.alloc hI.2.size _⟩ ⟨_,_,hI.1.2.2.2.2.lt,rfl,bf⟩
   case body =>
    rintro l pre x a' W hl hr ⟨⟨b1,b2,b3,b4,b5⟩,hB⟩ ⟨u35,B',hBl,rfl,RY⟩ hpl
    dsimp only
    have hS1:=Y9.out pre zo;have hS2:=Yo.out pre zo;have hT1:=Y9.out (pre++[x]) (by rw [List.length_append,List.length_singleton];omega);have hT2:=Yo.out (pre++[x]) (by rw [List.length_append,List.length_singleton];omega);have hbx:=MR (HBN.out x);rw [Jv] at hT1;rw [JI] at hT2;have A1:=zh (fun W h=>yH (mJ (los bs pre)) (vG bs[x.1]) hS1 zo hT1 W h);have A2:=zh (fun W h=>yH (mJ (his bs pre)) (vN bs[x.1]) hS2 hbx.2 hT2 W h);rw [← Jv] at A1;rw [← JI] at A2;clear hS1 hS2 hT1 hT2 hbx;obtain ⟨t1,Et1⟩:∃ y,dW ((mJ (los bs (pre++[x])):Nat):Int)= O y:=⟨_,rfl⟩;obtain ⟨t2,Et2⟩:∃ y,dW ((mJ (his bs (pre++[x])):Nat):Int)= O y:=⟨_,rfl⟩;obtain ⟨s1,Es1⟩:∃ y,dW ((mJ (los bs pre):Nat):Int)= O y:=⟨_,rfl⟩;obtain ⟨s2,Es2⟩:∃ y,dW ((mJ (his bs pre):Nat):Int)= O y:=⟨_,rfl⟩;rw [Et1,Es1] at A1;rw [Et2,Es2] at A2;rw [Es1] at b4
    rw [Es2] at b5;have HT1:=zh Et1;have HT2:=zh Et2;clear Et1 Et2 Es1 Es2;generalize vG bs[x.1]=n1 at *;generalize vN bs[x.1]=n2 at *;have ne1:lb≠bx+1+1:=by omega
    have ne2:lb+1≠bx+1+1:=by omega
    have ne3:B'≠lb:=by omega
    have ne4:B'≠bx+1+1:=by omega
    have cB:=RY.cell;have lB:=RY.lt;have c4:=b4.cell;have l4:=b4.lt
    gi_wp2_with (first|(refine ⟨trivial,?_⟩;gi_at_call 154;with_reducible refine (CallsIn.inRound l (callsIn_wide.2 (A1.out _ ?_))).mono ?_;exact (HP.out.later hB);rintro e w1 ⟨rfl,hc1⟩;have c1:=(b1.later hc1);have c2:=(b2.later hc1);have c3:=(b3.later hc1);have c4:=(b4.later hc1);have c5:=(b5.later hc1);have cB:=(RY.later hc1).cell;have lB:=(RY.later hc1).lt;have d3:=c3.cell;have d4:=c4.cell;have d5:=c5.cell;have f3:=c3.free;have f4:=c4.free;have f5:=c5.free;have l3:=c3.lt;have l4:=c4.lt;have l5:=c5.lt))
    have k1:KeepsOthers W ((w1.setCell ⟨lb,0,none⟩ (O t1)).setCell ⟨bx+1+1,0,none⟩ (Z I 0)):=((gK hc1).trans (KeepsOthers.setCell _ _ _)).trans (KeepsOthers.setCell _ _ _);have p1:Below w.heap.size W ((w1.setCell ⟨lb,0,none⟩ (O t1)).setCell ⟨bx+1+1,0,none⟩ (Z I 0)):=((hc1.mono hB.size).setCell (p:=⟨lb,0,none⟩) (by simp;omega) _).setCell (p:=⟨bx+1+1,0,none⟩) (by simp;omega) _;have e1:aA ((w1.setCell ⟨lb,0,none⟩ (O t1)).setCell ⟨bx+1+1,0,none⟩ (Z I 0)) bx #[Z I 0,Z I 0] 40:=aA.setOther (aA.setOther c1 _ (by simp;omega)) _ (by simp;omega);have e2:aA ((w1.setCell ⟨lb,0,none⟩ (O t1)).setCell ⟨bx+1+1,0,none⟩ (Z I 0)) (bx+1) #[Z I 0] 43:=aA.setOther (aA.setOther c2 _ (by simp;omega)) _ zi
    have e3:aA ((w1.setCell ⟨lb,0,none⟩ (O t1)).setCell ⟨bx+1+1,0,none⟩ (Z I 0)) (bx+1+1) #[Z I 0] 43:=aA.set (aA.setOther c3 _ (by simp;omega)) 0 _;have e4:aA ((w1.setCell ⟨lb,0,none⟩ (O t1)).setCell ⟨bx+1+1,0,none⟩ (Z I 0)) lb #[O t1] 30:=aA.setOther (aA.set c4 0 _) _ (by simp;omega);have e5:aA ((w1.setCell ⟨lb,0,none⟩ (O t1)).setCell ⟨bx+1+1,0,none⟩ (Z I 0)) (lb+1) #[O s2] 30:=aA.setOther (aA.setOther c5 _ zi) _ (by simp;omega);generalize (w1.setCell ⟨lb,0,none⟩ (O t1)).setCell ⟨bx+1+1,0,none⟩ (Z I 0)=w2 at *;clear c1 c2 c3 c4 c5 d3 d4 d5 f3 f4 f5 l3 l4 l5 cB lB hc1 b1 b2 b3 b4 b5;refine ⟨trivial,?_⟩;have hB2:=hB.trans p1;refine (CallsIn.inRound l (callsIn_wide.2 (A2.out _ (HP.out.later hB2)))).mono ?_;rintro e w3 ⟨rfl,hc3⟩;have q1:=e1.later hc3;have q2:=e2.later hc3;have q3:=e3.later hc3;have q4:=e4.later hc3
    have q5:=e5.later hc3;have d3:=q3.cell;have d5:=q5.cell;have f3:=q3.free;have f5:=q5.free;have l3:=q3.lt;have l5:=q5.lt
    gi_wp2
    have k3:KeepsOthers W ((w3.setCell ⟨lb+1,0,none⟩ (O t2)).setCell ⟨bx+1+1,0,none⟩ (Z I 0)):=((k1.trans (gK hc3)).trans (KeepsOthers.setCell _ _ _)).trans (KeepsOthers.setCell _ _ _);have p3:Below w.heap.size W ((w3.setCell ⟨lb+1,0,none⟩ (O t2)).setCell ⟨bx+1+1,0,none⟩ (Z I 0)):=((p1.trans (hc3.mono hB2.size)).setCell (p:=⟨lb+1,0,none⟩) (by simp;omega) _).setCell (p:=⟨bx+1+1,0,none⟩) (by simp;omega) _;have g1:aA ((w3.setCell ⟨lb+1,0,none⟩ (O t2)).setCell ⟨bx+1+1,0,none⟩ (Z I 0)) bx #[Z I 0,Z I 0] 40:=aA.setOther (aA.setOther q1 _ (by simp;omega)) _ (by simp;omega);have g2:aA ((w3.setCell ⟨lb+1,0,none⟩ (O t2)).setCell ⟨bx+1+1,0,none⟩ (Z I 0)) (bx+1) #[Z I 0] 43:=aA.setOther (aA.setOther q2 _ (by simp;omega)) _ zi
    have g3:aA ((w3.setCell ⟨lb+1,0,none⟩ (O t2)).setCell ⟨bx+1+1,0,none⟩ (Z I 0)) (bx+1+1) #[Z I 0] 43:=aA.set (aA.setOther q3 _ (by simp;omega)) 0 _;have g4:aA ((w3.setCell ⟨lb+1,0,none⟩ (O t2)).setCell ⟨bx+1+1,0,none⟩ (Z I 0)) lb #[O t1] 30:=aA.setOther (aA.setOther q4 _ zi) _ (by simp;omega);have g5:aA ((w3.setCell ⟨lb+1,0,none⟩ (O t2)).setCell ⟨bx+1+1,0,none⟩ (Z I 0)) (lb+1) #[O t2] 30:=aA.setOther (aA.set q5 0 _) _ (by simp;omega);refine ⟨k3.from _,p3,⟨g1,g2,g3,?_,?_⟩,hB.trans p3⟩
    ·rw [HT1.out];exact g4
    ·rw [HT2.out];exact g5
   case done =>
    rintro D ys W hD rfl ⟨⟨b1,b2,b3,b4,b5⟩,hB⟩ hK;rw [Ju] at b4;rw [JH] at b5;have HO:=zh (fun W h1 h2=>WO (bs.map vG) (bs.map vN) (by rw [← Ju];exact Y9.out _ (by rw [ku];omega)) (by rw [← JH];exact Yo.out _ (by rw [ku];omega)) W h1 h2);rw [HZ.out] at HO;unfold d9 at HO;simp only at HO;obtain ⟨s1,Es1⟩:∃ y,dW ((mJ (bs.map vG):Nat):Int)= O y:=⟨_,rfl⟩;obtain ⟨s2,Es2⟩:∃ y,dW ((mJ (bs.map vN):Nat):Int)= O y:=⟨_,rfl⟩;rw [Es1,Es2] at HO;rw [Es1] at b4;rw [Es2] at b5;clear Es1 Es2;have c4:=b4.cell;have l4:=b4.lt;have c5:=b5.cell;have l5:=b5.lt
    gi_wp2_with (refine ⟨trivial,?_⟩;gi_at_call 155;refine (callsIn_wide.2 (HO.out _ (HP.out.later hB) (HE.out.later hB))).mono ?_;rintro e w1 ⟨rfl,hc1⟩;have c1:=(b1.later hc1);have c2:=(b2.later hc1);have d1:=c1.cell;have d2:=c2.cell;have f1:=c1.free;have f2:=c2.free;have l1:=c1.lt;have l2:=c2.lt)
    rw [Exit.noGoto_ret];have hDW:D<W.heap.size:=(Array.getElem?_eq_some_iff.1 hK).1;have hK1:=(hc1.block D hDW).trans hK;have hK2:=(((KeepsOthers.setCell w1 ⟨bx,0,none⟩ (Z I z1)).trans (KeepsOthers.setCell _ ⟨bx,1,none⟩ (Z I z2))).trans (KeepsOthers.setCell _ ⟨bx+1,0,none⟩ (Z I z3))).same D _ hK1 rfl;refine ⟨by simp,.inl ⟨_,_,rfl,run_takeDeferred hK2,?_⟩⟩;have g1:aA (((w1.setCell ⟨bx,0,none⟩ (Z I z1)).setCell ⟨bx,1,none⟩ (Z I z2)).setCell ⟨bx+1,0,none⟩ (Z I z3)) bx #[Z I z1,Z I z2] 40:=aA.setOther ((c1.set 0 _).set 1 _) _ zi;have g2:aA (((w1.setCell ⟨bx,0,none⟩ (Z I z1)).setCell ⟨bx,1,none⟩ (Z I z2)).setCell ⟨bx+1,0,none⟩ (Z I z3)) (bx+1) #[Z I z3] 43:=aA.set (aA.setOther (aA.setOther c2 _ zi) _ zi) 0 _
    have hW:=(((hB.trans (hc1.mono hB.size)).setCell (p:=⟨bx,0,none⟩) (by simp;omega) (Z I z1)).setCell (p:=⟨bx,1,none⟩) (by simp;omega) (Z I z2)).setCell (p:=⟨bx+1,0,none⟩) (by simp;omega) (Z I z3);have g1:=iq g1 (grownBy_putObj' _ D (.deferred none)) (fun r e=>by cases e;exact ⟨_,hK2,rfl⟩);have g2:=iq g2 (grownBy_putObj' _ D (.deferred none)) (fun r e=>by cases e;exact ⟨_,hK2,rfl⟩);have hW2:=hW.trans (belowK_b (w:=w) (aD _) _ D _ (.deferred none) (by have:=hB0.size;omega) hK2 rfl rfl);have hc1':=g1.cell;have hc2':=g2.cell;have hl1:=hc1' 0;have hl2:=hc1' 1;have hl3:=hc2' 0;refine ⟨aG #[au #[Z I z1,Z I z2],Z I z3],?_,rfl,hW2⟩;simp [results,Tryz.f71,go_sem,hl1,hl2,hl3]
   case stop =>
    rintro D c' pre W hD hpre ⟨h, -⟩ hK;cases h
theorem uJ (a:Option Addr) (n cap:Nat) (k:Int) (h:n=0∧k=2∨8<n∧k=3) (w:World) :
  Calls Tryz.prog 71 #[ah a n cap] w (fun e w'=>e= aj (d9 ((0,0),k))∧Below w.heap.size w w'):=by
 unfold d9;simp only
 rcases h with ⟨h,rfl⟩|⟨h,rfl⟩
 ·subst h;go_enter Tryz.func71,Tryz.ntmps71
  go_wp2_with fail
  go_step3
  go_wp2_with fail
  rw [Exit.noGoto_ret];exact bodyPost_ret (v:=aG #[au #[Z I 0,Z I 0],Z I 2]) (by simp [results,Tryz.results71,go_sem]) rfl ⟨rfl,aF⟩
 ·have q1:((n:Int) == 0)=false:=beq_eq_false_iff_ne.2 zo;have q2:decide ((8:Int)<(n:Int))=true:=by simp;omega
  go_enter Tryz.func71,Tryz.ntmps71
  go_wp2_with fail
  go_step3
  go_wp2_with fail
  rw [Exit.noGoto_ret];exact bodyPost_ret (v:=aG #[au #[Z I 0,Z I 0],Z I 3]) (by simp [results,Tryz.results71,go_sem]) rfl ⟨rfl,aF⟩
theorem Vs (a:Option Addr) (cap:Nat) (T:TypeId) (bs:List (Int × Int)) (h1:1≤bs.length) (h8:bs.length≤8) (hok:okB bs=false) (w:World) (hv:wY w T (ah a bs.length cap) bs) :
  Calls Tryz.prog 71 #[ah a bs.length cap] w (fun e w'=>e= aj (d9 ((0,0),30))∧Below w.heap.size w w'):=by
 have q1:((bs.length:Int) == 0)=false:=beq_eq_false_iff_ne.2 zo;have q2:decide ((8:Int)<(bs.length:Int))=false:=by simp;omega
 have Vx:=zh hok;have HL:=zh h8
 have hread:∀ k (_:k<bs.length),∃ b off,a=some ⟨b,off,none⟩∧b<w.heap.size∧w.cell? ⟨b,off+k*2,none⟩=some (.int .i64 bs[k].1)∧w.cell? ⟨b,off+k*2+1,none⟩=some (.int .i64 bs[k].2):=by
  obtain ⟨a',cap',e, -, -, h⟩:=hv.read;cases e
  exact h
 have HRD:=zh hread;clear hread hv hok h8;unfold d9;simp only;go_enter Tryz.func71,Tryz.ntmps71
 go_wp2_with fail
 go_step3
 go_wp2_with fail
 go_step3
 obtain ⟨wx,EW,hz,R,E3,E⟩:=MW w #[Z I 0,Z I 0] 40 #[Z I 0] 43 #[Z I 0] 43;rw [EW];clear EW;obtain ⟨bx,eb⟩:∃ y,w.heap.size=y:=⟨_,rfl⟩;rw [eb] at R E3 E ⊢;go_wp2_with fail
 go_loopw [20] (fun i wr=>∃ k:Nat,i= Z I k∧k≤bs.length∧Below w.heap.size w wr∧Hid (aA wr bx #[Z I 0,Z I 0] 40)∧Hid (aA wr (bx+1) #[Z I 0] 43)∧Hid (aA wr (bx+1+1) #[Z I 0] 43)∧Hid (∀ j (h:j<bs.length),j<k→iG bs[j].1 bs[j].2=true))
  (fun i _=>bs.length - (intOf i).toNat)
 case atStart=>exact ⟨0,rfl,Nat.zero_le _,hz,R,E3,E,zh fun j _ h=>absurd h zo⟩
 case round =>
  clear R E3 E hz;obtain ⟨k,rfl,hk,hnx,R,E3,E,HK⟩:=hrel
  have hw1:wrap64 ((k:Int)+1)=((k+1:Nat):Int):=by
   have:=HL.out;unfold wrap64;omega
  by_cases hlt:k<bs.length
  ·obtain ⟨b,off,rfl,hbl,hx1,hx2⟩:=HRD.out k hlt;have hc1:=(hnx.cell (p:=⟨b,off+k*2,none⟩) hbl).trans hx1;have hc2:=(hnx.cell (p:=⟨b,off+k*2+1,none⟩) hbl).trans hx2;clear hx1 hx2;have HC:=zh (fun W=>iT bs[k].1 bs[k].2 W);obtain ⟨bk,EK⟩:∃ y,iG bs[k].1 bs[k].2=y:=⟨_,rfl⟩;rw [EK] at HC;have HEK:=zh EK;have HB:=zh hbl;clear hbl EK;generalize e1:bs[k].1=y1 at *;generalize e2:bs[k].2=y2 at *;have RF:=zh e1;have HE2:=zh e2;clear e1 e2;go_wp2_with fail
   refine (HC.out _).mono ?_;rintro e w1 ⟨rfl,hc3⟩;have HN:=zh (hnx.alloc hnx.size (.cells #[Z I y1,Z I y2] 40));replace R:=(zh (R.out.alloc (.cells #[Z I y1,Z I y2] 40))).bl hc3;replace E3:=(zh (E3.out.alloc (.cells #[Z I y1,Z I y2] 40))).bl hc3;replace E:=(zh (E.out.alloc (.cells #[Z I y1,Z I y2] 40))).bl hc3;replace HN:=zh (Bt HN.out hc3);clear hc3 hnx hc1 hc2;have cE:=E.out.cell;have fE:=E.out.free;have lE:=E.out.lt;cases bk
   ·go_wp2_with fail
    have hn:=HN.out;have r1:aA (w1.setCell ⟨bx+1+1,0,none⟩ (Z I 30)) bx #[Z I 0,Z I 0] 40:=aA.setOther R.out _ (by simp;omega);have r2:aA (w1.setCell ⟨bx+1+1,0,none⟩ (Z I 30)) (bx+1) #[Z I 0] 43:=aA.setOther E3.out _ zi;have r3:aA (w1.setCell ⟨bx+1+1,0,none⟩ (Z I 30)) (bx+1+1) #[Z I 30] 43:=aA.set E.out 0 _;have hn2:Below w.heap.size w (w1.setCell ⟨bx+1+1,0,none⟩ (Z I 30)):=hn.setCell (p:=⟨bx+1+1,0,none⟩) (by simp;omega) _;generalize w1.setCell ⟨bx+1+1,0,none⟩ (Z I 30)=w2 at *;clear R E3 E cE fE lE;have c1:=r1.cell;have c2:=r2.cell;have c3:=r3.cell;have f1:=r1.free;have f2:=r2.free;have l1:=r1.lt;have l2:=r2.lt;have l3:=r3.lt;go_region
    go_wp2_with fail
    rw [Exit.noGoto_ret];have g1:aA (((w2.setCell ⟨bx,0,none⟩ (Z I 0)).setCell ⟨bx,1,none⟩ (Z I 0)).setCell ⟨bx+1,0,none⟩ (Z I 30)).drew bx #[Z I 0,Z I 0] 40:=aA.drew (aA.setOther ((r1.set 0 _).set 1 _) _ zi);have g2:aA (((w2.setCell ⟨bx,0,none⟩ (Z I 0)).setCell ⟨bx,1,none⟩ (Z I 0)).setCell ⟨bx+1,0,none⟩ (Z I 30)).drew (bx+1) #[Z I 30] 43:=aA.drew (aA.set (aA.setOther (aA.setOther r2 _ zi) _ zi) 0 _);have hW:=(((hn2.setCell (p:=⟨bx,0,none⟩) (by simp;omega) (Z I 0)).setCell (p:=⟨bx,1,none⟩) (by simp;omega) (Z I 0)).setCell (p:=⟨bx+1,0,none⟩) (by simp;omega) (Z I 30)).drew;generalize (((w2.setCell ⟨bx,0,none⟩ (Z I 0)).setCell ⟨bx,1,none⟩ (Z I 0)).setCell ⟨bx+1,0,none⟩ (Z I 30)).drew=w3 at *;have h1:=g1.cell 0;have h2:=g1.cell 1;have h3:=g2.cell 0
    exact bodyPost_ret (v:=aG #[au #[Z I 0,Z I 0],Z I 30]) (by simp [results,Tryz.results71,go_sem,h1,h2,h3]) rfl ⟨rfl,hW⟩
   ·go_wp2_with fail
    go_roundw
    case rel =>
     have hn:=HN.out;rw [eb] at hn;have r:=R.out;have e3:=E3.out;have e4:=E.out;rw [eb];refine ⟨k+1,by rw [hw1],by omega,aF,zh bf,zh bf,zh (e4.set 0 _),zh fun j hj hjk=>?_⟩
     rcases aO j k with h|h
     ·exact HK.out j hj h
     ·obtain rfl:j=k:=by omega
      rw [RF.out,HE2.out];exact HEK.out
    case measure =>
     rw [hw1];simp only [intOf,Int.toNat_natCast];omega
  ·obtain rfl:k=bs.length:=by omega
   have hyes:okB bs=true:=by
    unfold okB;rw [dX];intro x hx;obtain ⟨j,hj,rfl⟩:=List.getElem_of_mem hx;exact HK.out j hj hj
   rw [Vx.out] at hyes;cases hyes
theorem Ig (v:Value) (T:TypeId) (bs:List (Int × Int)) (w:World) (hv:wY w T v bs) (ht:jH.Pow w) (he:Er w) :
  Calls Tryz.prog 71 #[v] w (fun e w'=>e= aj (d9 (qQ bs))∧Below w.heap.size w w'):=by
 obtain ⟨a,cap,rfl, -⟩:=hv.read;unfold qQ
 by_cases h0:bs.length=0
 ·rw [if_pos h0];exact uJ a _ cap 2 (Or.inl ⟨h0,rfl⟩) w
 ·rw [if_neg h0]
  by_cases h8:8<bs.length
  ·rw [if_pos h8];exact uJ a _ cap 3 (Or.inr ⟨h8,rfl⟩) w
  ·rw [if_neg h8];cases hk:okB bs
   ·rw [if_pos rfl];exact Vs a cap T bs zo zo hk w hv
   ·rw [if_neg zi];exact zG a cap T bs zo zo hk w hv ht he
end Go.Proofs.power
namespace Go.Proofs.power
open Go Go.RowKit Go.SW Go.Num Go.Mem Go.Proofs Go.Proofs.dH
end Go.Proofs.power
namespace Go.gD
theorem wY.nil {w:Go.World} {T:Go.TypeId}:wY w T (ah none 0 0) []:=⟨none,0,rfl,aD _,by omega,fun _ h=>by cases h⟩
end Go.gD
namespace Go.Proofs.power
open Go Go.RowKit Go.SW Go.Num Go.Mem Go.Proofs Go.gD Go.Proofs.dH
end Go.Proofs.power
