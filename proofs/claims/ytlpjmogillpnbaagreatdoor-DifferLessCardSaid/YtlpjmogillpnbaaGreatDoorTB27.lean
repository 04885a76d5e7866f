/- Lemmas for the proof. No condition. -/
import Derived.Test.YtlpjmogillpnbaaGreatDoorTB26
import Derived.RegionTactic
import Derived.ChangeAlike
set_option linter.unusedVariables false
set_option linter.unusedSimpArgs false
set_option maxRecDepth 100000
set_option maxHeartbeats 16000000
open Go.Ending renaming returned → ah
open Go.IntKind renaming i64 → I
open Go.Value renaming agg → au, bool → ay, int → Z, pointer → aA, slice → aj, string → O, tuple → aD
open List renaming all_eq_true → iP, cons_append → cZ, getElem_mem → eX, length_cons → aZ
open Nat renaming add_mul → bX, le_refl → aI, lt_of_le_of_lt → gB, lt_or_ge → aO, mul_le_mul_right → aX, one_mul → fP
namespace Go.Proofs.power
open Go Go.RowKit Go.Shelf Go.SW Go.Num Go.Mem Go.Proofs Go.Dec Go.gW Go.Proofs.whole Go.Proofs.aQ
attribute [local go_sem] Oper.semAt_some
theorem mW {W W':World} (h:Below W.heap.size W W'):KeepsOthers W W' :=
 ⟨h.size,fun k o hk _=>(h.block k (Array.getElem?_eq_some_iff.1 hk).1).trans hk⟩
theorem lI {W W':World} {row:Option Nat} {b:Nat} {cs:Array Value} {T:TypeId} (h:aC W b cs T) (hg:W.grownBy W' row) (hr:∀ r,row=some r→∃ o:Obj,W.heap[r]? =some o∧o.isCells=false):aC W' b cs T:=by
 unfold aC at *;rw [hg.block b (Array.getElem?_eq_some_iff.1 h).1 ?_]
 ·exact h
 ·intro e;obtain ⟨o,ho,hc⟩:=hr b e.symm;rw [h] at ho;cases ho
  cases hc
theorem Jy {l:List Nat} {m:Nat} (h:∀ x∈l,x≤m):oN l≤l.length*m^2:=by
 induction l with
 | nil=>exact Nat.zero_le _
 | cons x t ih =>
  rw [LW,aZ,bX,fP,Nat.add_comm];exact Nat.add_le_add (ih fun y hy=>h y (List.mem_cons_of_mem _ hy)) (Nat.pow_le_pow_left (h x zi) 2)
theorem Iz {l:List Nat} (h:∀ x∈l,x≤10^18) (h8:l.length≤8):kg (oN l)=true:=by
 have h1:=Jy h;have h3:8*(10^18)^2<10^600:=by decide+kernel
 generalize (10^18)^2=m at *;have h2:l.length*m≤8*m:=aX _ h8;exact tF.2 (gB h1 (gB h2 h3))
def los (bs:List (Int × Int)) (pre:List (Fin bs.length)):List Nat:=pre.map fun x=>Ca bs[x.1]
def his (bs:List (Int × Int)) (pre:List (Fin bs.length)):List Nat:=pre.map fun x=>Bw bs[x.1]
theorem Dh (bs:List (Int × Int)):los bs (upto bs.length (aI _))=bs.map Ca:=by
 unfold los upto;rw [List.map_ofFn];refine List.ext_getElem zi fun i h1 h2=>?_;simp
theorem Dx (bs:List (Int × Int)):his bs (upto bs.length (aI _))=bs.map Bw:=by
 unfold his upto;rw [List.map_ofFn];refine List.ext_getElem zi fun i h1 h2=>?_;simp
theorem Di (bs:List (Int × Int)) (pre:List (Fin bs.length)) (x:Fin bs.length):oN (los bs (pre++[x]))=oN (los bs pre)+Ca bs[x.1]^2:=by
 unfold los;rw [List.map_append,xC];simp [oN]
theorem Dy (bs:List (Int × Int)) (pre:List (Fin bs.length)) (x:Fin bs.length):oN (his bs (pre++[x]))=oN (his bs pre)+Bw bs[x.1]^2:=by
 unfold his;rw [List.map_append,xC];simp [oN]
theorem Qb (l m:List Nat) (hl:kg (oN l)=true) (hm:kg (oN m)=true) (w:World) (ht:gJ.Pow w) (he:Er w) :
  Calls Tryz.prog 107 #[dA (oN l:Nat),dA (oN m:Nat),.func (.func 108) #[] #[]] w (fun e w'=>e= ah (dH (Bc (rX l false) (rX m true)))∧Below w.heap.size w w'):=by
 have E1:=fun W (h:Below w.heap.size w W)=>E8 (oN l) false hl W (ht.later h) (he.later h);have E2:=fun W (h:Below w.heap.size w W)=>E8 (oN m) true hm W (ht.later h) (he.later h);simp only [JY] at E1 E2;unfold dA at *;rw [← Iw];exact Da _ _ (.func (.func 108) #[] #[]) 108 #[] #[] _ _ w rfl E1 E2 rfl (fun args W=>by rfl)
def zG (bs:List (Int × Int)):(Int × Int) × Int:=if bs.length=0 then ((0,0),2) else if 8<bs.length then ((0,0),3) else if okB bs=false then ((0,0),30) else Bc (rX (bs.map Ca) false) (rX (bs.map Bw) true)
theorem Ky (a:Option Addr) (cap:Nat) (T:TypeId) (bs:List (Int × Int)) (h1:1≤bs.length) (h8:bs.length≤8) (hok:okB bs=true) (w:World) (hv:qX w T (aj a bs.length cap) bs) (ht:gJ.Pow w) (he:Er w) :
  Calls Tryz.prog 67 #[aj a bs.length cap] w (fun e w'=>e= ah (dH (Bc (rX (bs.map Ca) false) (rX (bs.map Bw) true)))∧Below w.heap.size w w'):=by
 have q1:((bs.length:Int) == 0)=false:=beq_eq_false_iff_ne.2 zo;have q2:decide ((8:Int)<(bs.length:Int))=false:=by simp;omega
 have HR:=zh hv;have HP:=zh ht;have HE:=zh he;have RF:=zh hok;have HL:=zh h8
 have hread:∀ k (_:k<bs.length),∃ b off,a=some ⟨b,off,none⟩∧b<w.heap.size∧w.cell? ⟨b,off+k*2,none⟩=some (.int .i64 bs[k].1)∧w.cell? ⟨b,off+k*2+1,none⟩=some (.int .i64 bs[k].2):=by
  obtain ⟨a',cap',e, -, -, h⟩:=hv.read;cases e
  exact h
 have Vs:=zh hread;clear hread;clear hv ht he hok h8;obtain ⟨z,EZ⟩:∃ z,Bc (rX (bs.map Ca) false) (rX (bs.map Bw) true)=z:=⟨_,rfl⟩;rw [EZ];have HZ:=zh EZ;clear EZ;obtain ⟨⟨z1,z2⟩,z3⟩:=z;unfold dH;simp only;refine (callsIn_wide (n:=3)).1 ?_;refine callsIn_of_wp_marks Tryz.func67 rfl trivial ?_ rfl;simp only [Tryz.ntmps67,List.size_toArray,aZ,List.length_nil,Nat.reduceAdd,Nat.reduceSub,Array.replicate_succ,Array.replicate_zero,List.push_toArray,List.append_toArray,List.nil_append,cZ]
 gi_wp2
 refine Fq ?_
 gi_wp2
 refine wpIn_label ?_;obtain ⟨wx,EW,hz,R,E3,E⟩:=Pf w #[Z I 0,Z I 0] 35 #[Z I 0] 36 #[Z I 0] 36;rw [EW];clear EW;obtain ⟨bx,eb⟩:∃ y,w.heap.size=y:=⟨_,rfl⟩;rw [eb] at R E3 E ⊢
 gi_wp2
 gi_loopw [20] (fun i wr=>∃ k:Nat,i= Z I k∧k≤bs.length∧Below w.heap.size w wr∧Hid (aC wr bx #[Z I 0,Z I 0] 35)∧Hid (aC wr (bx+1) #[Z I 0] 36)∧Hid (aC wr (bx+1+1) #[Z I 0] 36))
  (fun i _=>bs.length - (intOf i).toNat)
 case atStart=>exact ⟨0,rfl,Nat.zero_le _,hz,R,E3,E⟩
 case round =>
  clear R E3 E hz;obtain ⟨k,rfl,hk,hnx,R,E3,E⟩:=hrel
  have hw1:wrap64 ((k:Int)+1)=((k+1:Nat):Int):=by
   have:=HL.out;unfold wrap64;omega
  by_cases hlt:k<bs.length
  ·obtain ⟨b,off,rfl,hbl,hx1,hx2⟩:=Vs.out k hlt;have hc1:=(hnx.cell (p:=⟨b,off+k*2,none⟩) hbl).trans hx1;have hc2:=(hnx.cell (p:=⟨b,off+k*2+1,none⟩) hbl).trans hx2;clear hx1 hx2;have hv:jc bs[k].1 bs[k].2=true:=List.all_eq_true.1 RF.out _ (eX hlt);have HC:=zh (fun W=>oM bs[k].1 bs[k].2 W);rw [hv,if_pos rfl] at HC;have HB:=zh hbl;clear hv hbl;generalize bs[k].1=y1 at *;generalize bs[k].2=y2 at *
   gi_wp2_with (refine ⟨trivial,?_⟩;gi_at_call 104;refine (callsIn_wide.2 (HC.out _)).mono ?_;rintro e w1 ⟨rfl,hc3⟩;have HN:=zh (hnx.alloc hnx.size (.cells #[Z I y1,Z I y2] 35));replace R:=(zh (R.out.alloc (.cells #[Z I y1,Z I y2] 35))).bl hc3;replace E3:=(zh (E3.out.alloc (.cells #[Z I y1,Z I y2] 35))).bl hc3;replace E:=(zh (E.out.alloc (.cells #[Z I y1,Z I y2] 35))).bl hc3;replace HN:=zh (Bt HN.out hc3);clear hc3 hnx hc1 hc2;have cE:=E.out.cell;have fE:=E.out.free;have lE:=E.out.lt)
   go_roundw
   case rel =>
    have hn:=HN.out;rw [eb] at hn;have r:=R.out;have e3:=E3.out;have e4:=E.out;rw [eb];exact ⟨k+1,by rw [hw1],by omega,aN,zh bf,zh bf,zh (e4.set 0 _)⟩
   case measure =>
    rw [hw1];simp only [intOf,Int.toNat_natCast];omega
  ·obtain rfl:k=bs.length:=by omega
   have hge:¬ bs.length<bs.length:=by omega
   have ad7:decide ((bs.length:Int)<(bs.length:Int))=false:=by simp
   have cE:=E.out.cell;have fE:=E.out.free;have lE:=E.out.lt
   gi_wp2_with (refine ⟨trivial,?_⟩;gi_at_call 105;refine (BF 2 _ _ _ _).mono ?_;rintro e w' ⟨rfl,rfl⟩)
   have ad4:=hnx;obtain ⟨wy,EW,hz,LO,HI,SB⟩:=Pf wr #[O ⟨#[48]⟩] 27 #[O ⟨#[48]⟩] 27 #[aj a bs.length cap] 110;rw [EW];clear EW;obtain ⟨lb,el⟩:∃ y,wr.heap.size=y:=⟨_,rfl⟩;have hB0:Below w.heap.size w wy:=Bt hnx hz;have hlb:bx+1+1<lb:=by rw [← el];exact E.out.lt
   replace R:=R.bl hz;replace E3:=E3.bl hz;replace E:=E.bl hz;rw [el] at LO HI SB ⊢;clear cE fE lE hz hnx ad4;have z0:Value.string ⟨#[48]⟩=dA ((0:Nat):Int):=by kernel_rfl
   rw [z0] at LO HI;have aj3:=HL.out;have HBN:Hid (∀ x:Fin bs.length,jc bs[x.1].1 bs[x.1].2=true):=zh fun x=>List.all_eq_true.1 RF.out _ (eX x.2)
   have HLO:Hid (∀ pre:List (Fin bs.length),pre.length≤bs.length→kg (oN (los bs pre))=true):=zh fun pre hp=>Iz (fun y hy=>by
    obtain ⟨x, -, rfl⟩:=List.mem_map.1 hy;have:=Gz (HBN.out x);omega) (by unfold los;rw [List.length_map];omega)
   have HHI:Hid (∀ pre:List (Fin bs.length),pre.length≤bs.length→kg (oN (his bs pre))=true):=zh fun pre hp=>Iz (fun y hy=>by
    obtain ⟨x, -, rfl⟩:=List.mem_map.1 hy;exact (Gz (HBN.out x)).2) (by unfold his;rw [List.length_map];omega)
   refine wpIn_rangeFunc_ownH (α:=Fin bs.length) rfl zo (gf:=149) (lb:=#[aA (some ⟨lb+1+1,0,none⟩)]) rfl trivial (enters_of Tryz.func149 zk rfl)
    (wm 2 zo (lb+1+1) w.heap.size (aj a bs.length cap) T bs RF.out w wy SB.out.lt hB0.size ((SB.out.cell 0).trans rfl) HR.out (aI _) hB0) belowK_t (belowK_b hB0.size) (Below.refl _ _) (fun _=>rfl)
    (fun pre W=>(aC W bx #[Z I 0,Z I 0] 35∧aC W (bx+1) #[Z I 0] 36∧aC W (bx+1+1) #[Z I 0] 36∧aC W lb #[dA (oN (los bs pre):Nat)] 27∧aC W (lb+1) #[dA (oN (his bs pre):Nat)] 27)∧Below w.heap.size w W)
    (fun c' pre W=>False∧Below w.heap.size w W)
    (OwnFrom.and (Own.from (fun s A B row hs hg hr=>⟨lI hs.1 hg hr,lI hs.2.1 hg hr,lI hs.2.2.1 hg hr,lI hs.2.2.2.1 hg hr,lI hs.2.2.2.2 hg hr⟩) _) (ownFrom_below (aI _) hB0.size))
    (fun c=>OwnFrom.and (Own.from (fun s A B row hs hg hr=>hs) _) (ownFrom_below (aI _) hB0.size))
    ⟨⟨R.out,E3.out,E.out,LO.out,HI.out⟩,hB0⟩ (fun x a' W=>∃ u35 B,lb+1<B∧a'={ tmps:=#[Value.slice a bs.length cap,undef,aA (some ⟨bx,0,none⟩),aA (some ⟨bx+1,0,none⟩),aA (some ⟨bx+1+1,0,none⟩),undef,u6,aA (some ⟨lb,0,none⟩),aA (some ⟨lb+1,0,none⟩),aA (some ⟨B,0,none⟩),aj a bs.length cap,Z I bs.length,ay false,undef,aj a bs.length cap,Z I bs.length,ay false,undef,aj a bs.length cap,Z I bs.length,Z I bs.length,ay false,u22,u23,u24,u25,u26,u27,u28,Z I 0,ay false,undef,undef,aj a bs.length cap,.func (.func 149) #[] #[aA (some ⟨lb+1+1,0,none⟩)],u35,undef,undef,undef,undef,undef,undef,undef,undef,undef,undef,undef,undef,undef,undef,undef,undef,undef,undef,undef,undef,undef,undef,undef,undef,undef,undef,undef],defers:=[] }∧aC W B #[Z I ((Ca bs[x.1]:Nat):Int),Z I ((Bw bs[x.1]:Nat):Int)] 35) ?hAx ?assign ?body ?done ?stop
   case hAx =>
    intro x a'
    exact Own.from (fun s A B row hs hg hr=>by
     obtain ⟨u1,B',h0,h1,h2⟩:=hs;exact ⟨u1,B',h0,h1,lI h2 hg hr⟩) _
   case assign =>
    intro l pre x W K hI hK;unfold QE
    gi_wp2
    exact hK _ _ ((mW aN).from _) ((Below.refl _ W).alloc hI.2.size _) ⟨⟨hI.1.1.alloc _,hI.1.2.1.alloc _,hI.1.2.2.1.alloc _,hI.1.2.2.2.1.alloc _,hI.1.2.2.2.2.alloc _⟩,hI.2.alloc hI.2.size _⟩ ⟨_,_,hI.1.2.2.2.2.lt,rfl,bf⟩
   case body =>
    rintro l pre x a' W hl hr ⟨⟨b1,b2,b3,b4,b5⟩,hB⟩ ⟨u35,B',hBl,rfl,ZI⟩ hpl
    dsimp only
    have hS1:=HLO.out pre zo;have hS2:=HHI.out pre zo;have hT1:=HLO.out (pre++[x]) (by rw [List.length_append,List.length_singleton];omega);have ZJ:=HHI.out (pre++[x]) (by rw [List.length_append,List.length_singleton];omega);have hbx:=Gz (HBN.out x);rw [Di] at hT1;rw [Dy] at ZJ;have A1:=zh (fun W h=>uE (oN (los bs pre)) (Ca bs[x.1]) hS1 zo hT1 W h);have A2:=zh (fun W h=>uE (oN (his bs pre)) (Bw bs[x.1]) hS2 hbx.2 ZJ W h);rw [← Di] at A1;rw [← Dy] at A2;clear hS1 hS2 hT1 ZJ hbx;obtain ⟨t1,Et1⟩:∃ y,dA ((oN (los bs (pre++[x])):Nat):Int)= O y:=⟨_,rfl⟩;obtain ⟨t2,Et2⟩:∃ y,dA ((oN (his bs (pre++[x])):Nat):Int)= O y:=⟨_,rfl⟩;obtain ⟨s1,Vz⟩:∃ y,dA ((oN (los bs pre):Nat):Int)= O y:=⟨_,rfl⟩;obtain ⟨s2,Vy⟩:∃ y,dA ((oN (his bs pre):Nat):Int)= O y:=⟨_,rfl⟩;rw [Et1,Vz] at A1;rw [Et2,Vy] at A2;rw [Vz] at b4
    rw [Vy] at b5;have HT1:=zh Et1;have HT2:=zh Et2;clear Et1 Et2 Vz Vy;generalize Ca bs[x.1]=n1 at *;generalize Bw bs[x.1]=n2 at *;have ne1:lb≠bx+1+1:=by omega
    have ne2:lb+1≠bx+1+1:=by omega
    have ne3:B'≠lb:=by omega
    have ne4:B'≠bx+1+1:=by omega
    have cB:=ZI.cell;have lB:=ZI.lt;have c4:=b4.cell;have l4:=b4.lt
    gi_wp2_with (first|(refine ⟨trivial,?_⟩;gi_at_call 106;with_reducible refine (CallsIn.inRound l (callsIn_wide.2 (A1.out _ ?_))).mono ?_;exact (HP.out.later hB);rintro e w1 ⟨rfl,hc1⟩;have c1:=(b1.later hc1);have c2:=(b2.later hc1);have c3:=(b3.later hc1);have c4:=(b4.later hc1);have c5:=(b5.later hc1);have cB:=(ZI.later hc1).cell;have lB:=(ZI.later hc1).lt;have d3:=c3.cell;have d4:=c4.cell;have d5:=c5.cell;have f3:=c3.free;have f4:=c4.free;have f5:=c5.free;have l3:=c3.lt;have l4:=c4.lt;have l5:=c5.lt))
    have k1:KeepsOthers W ((w1.setCell ⟨lb,0,none⟩ (O t1)).setCell ⟨bx+1+1,0,none⟩ (Z I 0)):=((mW hc1).trans (KeepsOthers.setCell _ _ _)).trans (KeepsOthers.setCell _ _ _);have p1:Below w.heap.size W ((w1.setCell ⟨lb,0,none⟩ (O t1)).setCell ⟨bx+1+1,0,none⟩ (Z I 0)):=((hc1.mono hB.size).setCell (p:=⟨lb,0,none⟩) (by simp;omega) _).setCell (p:=⟨bx+1+1,0,none⟩) (by simp;omega) _;have e1:aC ((w1.setCell ⟨lb,0,none⟩ (O t1)).setCell ⟨bx+1+1,0,none⟩ (Z I 0)) bx #[Z I 0,Z I 0] 35:=aC.setOther (aC.setOther c1 _ (by simp;omega)) _ (by simp;omega);have e2:aC ((w1.setCell ⟨lb,0,none⟩ (O t1)).setCell ⟨bx+1+1,0,none⟩ (Z I 0)) (bx+1) #[Z I 0] 36:=aC.setOther (aC.setOther c2 _ (by simp;omega)) _ zi
    have e3:aC ((w1.setCell ⟨lb,0,none⟩ (O t1)).setCell ⟨bx+1+1,0,none⟩ (Z I 0)) (bx+1+1) #[Z I 0] 36:=aC.set (aC.setOther c3 _ (by simp;omega)) 0 _;have e4:aC ((w1.setCell ⟨lb,0,none⟩ (O t1)).setCell ⟨bx+1+1,0,none⟩ (Z I 0)) lb #[O t1] 27:=aC.setOther (aC.set c4 0 _) _ (by simp;omega);have e5:aC ((w1.setCell ⟨lb,0,none⟩ (O t1)).setCell ⟨bx+1+1,0,none⟩ (Z I 0)) (lb+1) #[O s2] 27:=aC.setOther (aC.setOther c5 _ zi) _ (by simp;omega);generalize (w1.setCell ⟨lb,0,none⟩ (O t1)).setCell ⟨bx+1+1,0,none⟩ (Z I 0)=w2 at *;clear c1 c2 c3 c4 c5 d3 d4 d5 f3 f4 f5 l3 l4 l5 cB lB hc1 b1 b2 b3 b4 b5;refine ⟨trivial,?_⟩;have hB2:=hB.trans p1;refine (CallsIn.inRound l (callsIn_wide.2 (A2.out _ (HP.out.later hB2)))).mono ?_;rintro e w3 ⟨rfl,hc3⟩;have q1:=e1.later hc3;have q2:=e2.later hc3;have q3:=e3.later hc3;have q4:=e4.later hc3
    have q5:=e5.later hc3;have d3:=q3.cell;have d5:=q5.cell;have f3:=q3.free;have f5:=q5.free;have l3:=q3.lt;have l5:=q5.lt
    gi_wp2
    have k3:KeepsOthers W ((w3.setCell ⟨lb+1,0,none⟩ (O t2)).setCell ⟨bx+1+1,0,none⟩ (Z I 0)):=((k1.trans (mW hc3)).trans (KeepsOthers.setCell _ _ _)).trans (KeepsOthers.setCell _ _ _);have p3:Below w.heap.size W ((w3.setCell ⟨lb+1,0,none⟩ (O t2)).setCell ⟨bx+1+1,0,none⟩ (Z I 0)):=((p1.trans (hc3.mono hB2.size)).setCell (p:=⟨lb+1,0,none⟩) (by simp;omega) _).setCell (p:=⟨bx+1+1,0,none⟩) (by simp;omega) _;have g1:aC ((w3.setCell ⟨lb+1,0,none⟩ (O t2)).setCell ⟨bx+1+1,0,none⟩ (Z I 0)) bx #[Z I 0,Z I 0] 35:=aC.setOther (aC.setOther q1 _ (by simp;omega)) _ (by simp;omega);have g2:aC ((w3.setCell ⟨lb+1,0,none⟩ (O t2)).setCell ⟨bx+1+1,0,none⟩ (Z I 0)) (bx+1) #[Z I 0] 36:=aC.setOther (aC.setOther q2 _ (by simp;omega)) _ zi
    have g3:aC ((w3.setCell ⟨lb+1,0,none⟩ (O t2)).setCell ⟨bx+1+1,0,none⟩ (Z I 0)) (bx+1+1) #[Z I 0] 36:=aC.set (aC.setOther q3 _ (by simp;omega)) 0 _;have g4:aC ((w3.setCell ⟨lb+1,0,none⟩ (O t2)).setCell ⟨bx+1+1,0,none⟩ (Z I 0)) lb #[O t1] 27:=aC.setOther (aC.setOther q4 _ zi) _ (by simp;omega);have g5:aC ((w3.setCell ⟨lb+1,0,none⟩ (O t2)).setCell ⟨bx+1+1,0,none⟩ (Z I 0)) (lb+1) #[O t2] 27:=aC.setOther (aC.set q5 0 _) _ (by simp;omega);refine ⟨k3.from _,p3,⟨g1,g2,g3,?_,?_⟩,hB.trans p3⟩
    ·rw [HT1.out];exact g4
    ·rw [HT2.out];exact g5
   case done =>
    rintro D ys W hD rfl ⟨⟨b1,b2,b3,b4,b5⟩,hB⟩ hK;rw [Dh] at b4;rw [Dx] at b5;have HO:=zh (fun W h1 h2=>Qb (bs.map Ca) (bs.map Bw) (by rw [← Dh];exact HLO.out _ (by rw [qb];omega)) (by rw [← Dx];exact HHI.out _ (by rw [qb];omega)) W h1 h2);rw [HZ.out] at HO;unfold dH at HO;simp only at HO;obtain ⟨s1,Vz⟩:∃ y,dA ((oN (bs.map Ca):Nat):Int)= O y:=⟨_,rfl⟩;obtain ⟨s2,Vy⟩:∃ y,dA ((oN (bs.map Bw):Nat):Int)= O y:=⟨_,rfl⟩;rw [Vz,Vy] at HO;rw [Vz] at b4;rw [Vy] at b5;clear Vz Vy;have c4:=b4.cell;have l4:=b4.lt;have c5:=b5.cell;have l5:=b5.lt
    gi_wp2_with (refine ⟨trivial,?_⟩;gi_at_call 107;refine (callsIn_wide.2 (HO.out _ (HP.out.later hB) (HE.out.later hB))).mono ?_;rintro e w1 ⟨rfl,hc1⟩;have c1:=(b1.later hc1);have c2:=(b2.later hc1);have d1:=c1.cell;have d2:=c2.cell;have f1:=c1.free;have f2:=c2.free;have l1:=c1.lt;have l2:=c2.lt)
    rw [Exit.noGoto_ret];have hDW:D<W.heap.size:=(Array.getElem?_eq_some_iff.1 hK).1;have hK1:=(hc1.block D hDW).trans hK;have hK2:=(((KeepsOthers.setCell w1 ⟨bx,0,none⟩ (Z I z1)).trans (KeepsOthers.setCell _ ⟨bx,1,none⟩ (Z I z2))).trans (KeepsOthers.setCell _ ⟨bx+1,0,none⟩ (Z I z3))).same D _ hK1 rfl;refine ⟨by simp,.inl ⟨_,_,rfl,run_takeDeferred hK2,?_⟩⟩;have g1:aC (((w1.setCell ⟨bx,0,none⟩ (Z I z1)).setCell ⟨bx,1,none⟩ (Z I z2)).setCell ⟨bx+1,0,none⟩ (Z I z3)) bx #[Z I z1,Z I z2] 35:=aC.setOther ((c1.set 0 _).set 1 _) _ zi;have g2:aC (((w1.setCell ⟨bx,0,none⟩ (Z I z1)).setCell ⟨bx,1,none⟩ (Z I z2)).setCell ⟨bx+1,0,none⟩ (Z I z3)) (bx+1) #[Z I z3] 36:=aC.set (aC.setOther (aC.setOther c2 _ zi) _ zi) 0 _
    have hW:=(((hB.trans (hc1.mono hB.size)).setCell (p:=⟨bx,0,none⟩) (by simp;omega) (Z I z1)).setCell (p:=⟨bx,1,none⟩) (by simp;omega) (Z I z2)).setCell (p:=⟨bx+1,0,none⟩) (by simp;omega) (Z I z3);have g1:=lI g1 (grownBy_putObj' _ D (.deferred none)) (fun r e=>by cases e;exact ⟨_,hK2,rfl⟩);have g2:=lI g2 (grownBy_putObj' _ D (.deferred none)) (fun r e=>by cases e;exact ⟨_,hK2,rfl⟩);have hW2:=hW.trans (belowK_b (w:=w) (aI _) _ D _ (.deferred none) (by have:=hB0.size;omega) hK2 rfl rfl);have hc1':=g1.cell;have hc2':=g2.cell;have hl1:=hc1' 0;have hl2:=hc1' 1;have hl3:=hc2' 0;refine ⟨aD #[au #[Z I z1,Z I z2],Z I z3],?_,rfl,hW2⟩;simp [results,Tryz.f67,go_sem,hl1,hl2,hl3]
   case stop =>
    rintro D c' pre W hD hpre ⟨h, -⟩ hK;cases h
theorem E5 (a:Option Addr) (n cap:Nat) (k:Int) (h:n=0∧k=2∨8<n∧k=3) (w:World) :
  Calls Tryz.prog 67 #[aj a n cap] w (fun e w'=>e= ah (dH ((0,0),k))∧Below w.heap.size w w'):=by
 unfold dH;simp only
 rcases h with ⟨h,rfl⟩|⟨h,rfl⟩
 ·subst h;go_enter Tryz.func67,Tryz.ntmps67
  go_wp2_with fail
  go_step3
  go_wp2_with fail
  rw [Exit.noGoto_ret];exact bodyPost_ret (v:=aD #[au #[Z I 0,Z I 0],Z I 2]) (by simp [results,Tryz.results67,go_sem]) rfl ⟨rfl,aN⟩
 ·have q1:((n:Int) == 0)=false:=beq_eq_false_iff_ne.2 zo;have q2:decide ((8:Int)<(n:Int))=true:=by simp;omega
  go_enter Tryz.func67,Tryz.ntmps67
  go_wp2_with fail
  go_step3
  go_wp2_with fail
  rw [Exit.noGoto_ret];exact bodyPost_ret (v:=aD #[au #[Z I 0,Z I 0],Z I 3]) (by simp [results,Tryz.results67,go_sem]) rfl ⟨rfl,aN⟩
theorem OL (a:Option Addr) (cap:Nat) (T:TypeId) (bs:List (Int × Int)) (h1:1≤bs.length) (h8:bs.length≤8) (hok:okB bs=false) (w:World) (hv:qX w T (aj a bs.length cap) bs) :
  Calls Tryz.prog 67 #[aj a bs.length cap] w (fun e w'=>e= ah (dH ((0,0),30))∧Below w.heap.size w w'):=by
 have q1:((bs.length:Int) == 0)=false:=beq_eq_false_iff_ne.2 zo;have q2:decide ((8:Int)<(bs.length:Int))=false:=by simp;omega
 have RF:=zh hok;have HL:=zh h8
 have hread:∀ k (_:k<bs.length),∃ b off,a=some ⟨b,off,none⟩∧b<w.heap.size∧w.cell? ⟨b,off+k*2,none⟩=some (.int .i64 bs[k].1)∧w.cell? ⟨b,off+k*2+1,none⟩=some (.int .i64 bs[k].2):=by
  obtain ⟨a',cap',e, -, -, h⟩:=hv.read;cases e
  exact h
 have Vs:=zh hread;clear hread hv hok h8;unfold dH;simp only;go_enter Tryz.func67,Tryz.ntmps67
 go_wp2_with fail
 go_step3
 go_wp2_with fail
 go_step3
 obtain ⟨wx,EW,hz,R,E3,E⟩:=Pf w #[Z I 0,Z I 0] 35 #[Z I 0] 36 #[Z I 0] 36;rw [EW];clear EW;obtain ⟨bx,eb⟩:∃ y,w.heap.size=y:=⟨_,rfl⟩;rw [eb] at R E3 E ⊢;go_wp2_with fail
 go_loopw [20] (fun i wr=>∃ k:Nat,i= Z I k∧k≤bs.length∧Below w.heap.size w wr∧Hid (aC wr bx #[Z I 0,Z I 0] 35)∧Hid (aC wr (bx+1) #[Z I 0] 36)∧Hid (aC wr (bx+1+1) #[Z I 0] 36)∧Hid (∀ j (h:j<bs.length),j<k→jc bs[j].1 bs[j].2=true))
  (fun i _=>bs.length - (intOf i).toNat)
 case atStart=>exact ⟨0,rfl,Nat.zero_le _,hz,R,E3,E,zh fun j _ h=>absurd h zo⟩
 case round =>
  clear R E3 E hz;obtain ⟨k,rfl,hk,hnx,R,E3,E,HK⟩:=hrel
  have hw1:wrap64 ((k:Int)+1)=((k+1:Nat):Int):=by
   have:=HL.out;unfold wrap64;omega
  by_cases hlt:k<bs.length
  ·obtain ⟨b,off,rfl,hbl,hx1,hx2⟩:=Vs.out k hlt;have hc1:=(hnx.cell (p:=⟨b,off+k*2,none⟩) hbl).trans hx1;have hc2:=(hnx.cell (p:=⟨b,off+k*2+1,none⟩) hbl).trans hx2;clear hx1 hx2;have HC:=zh (fun W=>oM bs[k].1 bs[k].2 W);obtain ⟨bk,EK⟩:∃ y,jc bs[k].1 bs[k].2=y:=⟨_,rfl⟩;rw [EK] at HC;have HEK:=zh EK;have HB:=zh hbl;clear hbl EK;generalize e1:bs[k].1=y1 at *;generalize e2:bs[k].2=y2 at *;have KU:=zh e1;have HE2:=zh e2;clear e1 e2;go_wp2_with fail
   refine (HC.out _).mono ?_;rintro e w1 ⟨rfl,hc3⟩;have HN:=zh (hnx.alloc hnx.size (.cells #[Z I y1,Z I y2] 35));replace R:=(zh (R.out.alloc (.cells #[Z I y1,Z I y2] 35))).bl hc3;replace E3:=(zh (E3.out.alloc (.cells #[Z I y1,Z I y2] 35))).bl hc3;replace E:=(zh (E.out.alloc (.cells #[Z I y1,Z I y2] 35))).bl hc3;replace HN:=zh (Bt HN.out hc3);clear hc3 hnx hc1 hc2;have cE:=E.out.cell;have fE:=E.out.free;have lE:=E.out.lt;cases bk
   ·go_wp2_with fail
    have hn:=HN.out;have r1:aC (w1.setCell ⟨bx+1+1,0,none⟩ (Z I 30)) bx #[Z I 0,Z I 0] 35:=aC.setOther R.out _ (by simp;omega);have r2:aC (w1.setCell ⟨bx+1+1,0,none⟩ (Z I 30)) (bx+1) #[Z I 0] 36:=aC.setOther E3.out _ zi;have r3:aC (w1.setCell ⟨bx+1+1,0,none⟩ (Z I 30)) (bx+1+1) #[Z I 30] 36:=aC.set E.out 0 _;have hn2:Below w.heap.size w (w1.setCell ⟨bx+1+1,0,none⟩ (Z I 30)):=hn.setCell (p:=⟨bx+1+1,0,none⟩) (by simp;omega) _;generalize w1.setCell ⟨bx+1+1,0,none⟩ (Z I 30)=w2 at *;clear R E3 E cE fE lE;have c1:=r1.cell;have c2:=r2.cell;have c3:=r3.cell;have f1:=r1.free;have f2:=r2.free;have l1:=r1.lt;have l2:=r2.lt;have l3:=r3.lt;go_region
    go_wp2_with fail
    rw [Exit.noGoto_ret];have g1:aC (((w2.setCell ⟨bx,0,none⟩ (Z I 0)).setCell ⟨bx,1,none⟩ (Z I 0)).setCell ⟨bx+1,0,none⟩ (Z I 30)).drew bx #[Z I 0,Z I 0] 35:=aC.drew (aC.setOther ((r1.set 0 _).set 1 _) _ zi);have g2:aC (((w2.setCell ⟨bx,0,none⟩ (Z I 0)).setCell ⟨bx,1,none⟩ (Z I 0)).setCell ⟨bx+1,0,none⟩ (Z I 30)).drew (bx+1) #[Z I 30] 36:=aC.drew (aC.set (aC.setOther (aC.setOther r2 _ zi) _ zi) 0 _);have hW:=(((hn2.setCell (p:=⟨bx,0,none⟩) (by simp;omega) (Z I 0)).setCell (p:=⟨bx,1,none⟩) (by simp;omega) (Z I 0)).setCell (p:=⟨bx+1,0,none⟩) (by simp;omega) (Z I 30)).drew;generalize (((w2.setCell ⟨bx,0,none⟩ (Z I 0)).setCell ⟨bx,1,none⟩ (Z I 0)).setCell ⟨bx+1,0,none⟩ (Z I 30)).drew=w3 at *;have h1:=g1.cell 0;have h2:=g1.cell 1;have h3:=g2.cell 0
    exact bodyPost_ret (v:=aD #[au #[Z I 0,Z I 0],Z I 30]) (by simp [results,Tryz.results67,go_sem,h1,h2,h3]) rfl ⟨rfl,hW⟩
   ·go_wp2_with fail
    go_roundw
    case rel =>
     have hn:=HN.out;rw [eb] at hn;have r:=R.out;have e3:=E3.out;have e4:=E.out;rw [eb];refine ⟨k+1,by rw [hw1],by omega,aN,zh bf,zh bf,zh (e4.set 0 _),zh fun j hj hjk=>?_⟩
     rcases aO j k with h|h
     ·exact HK.out j hj h
     ·obtain rfl:j=k:=by omega
      rw [KU.out,HE2.out];exact HEK.out
    case measure =>
     rw [hw1];simp only [intOf,Int.toNat_natCast];omega
  ·obtain rfl:k=bs.length:=by omega
   have hyes:okB bs=true:=by
    unfold okB;rw [iP];intro x hx;obtain ⟨j,hj,rfl⟩:=List.getElem_of_mem hx;exact HK.out j hj hj
   rw [RF.out] at hyes;cases hyes
theorem Je (v:Value) (T:TypeId) (bs:List (Int × Int)) (w:World) (hv:qX w T v bs) (ht:gJ.Pow w) (he:Er w) :
  Calls Tryz.prog 67 #[v] w (fun e w'=>e= ah (dH (zG bs))∧Below w.heap.size w w'):=by
 obtain ⟨a,cap,rfl, -⟩:=hv.read;unfold zG
 by_cases h0:bs.length=0
 ·rw [if_pos h0];exact E5 a _ cap 2 (Or.inl ⟨h0,rfl⟩) w
 ·rw [if_neg h0]
  by_cases h8:8<bs.length
  ·rw [if_pos h8];exact E5 a _ cap 3 (Or.inr ⟨h8,rfl⟩) w
  ·rw [if_neg h8];cases hk:okB bs
   ·rw [if_pos rfl];exact OL a cap T bs zo zo hk w hv
   ·rw [if_neg zi];exact Ky a cap T bs zo zo hk w hv ht he
end Go.Proofs.power
namespace Go.Proofs.power
open Go Go.RowKit Go.SW Go.Num Go.Mem Go.Proofs Go.Proofs.aQ
end Go.Proofs.power
namespace Go.gW
theorem qX.nil {w:Go.World} {T:Go.TypeId}:qX w T (aj none 0 0) []:=⟨none,0,rfl,aI _,by omega,fun _ h=>by cases h⟩
end Go.gW
namespace Go.Proofs.power
open Go Go.RowKit Go.SW Go.Num Go.Mem Go.Proofs Go.gW Go.Proofs.aQ
end Go.Proofs.power
