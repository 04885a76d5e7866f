/- Lemmas for the proof. No condition. -/
import Derived.Test.YtbngfhgoeoncmaaGreatDoorTB04
import Derived.Test.YtbngfhgoeoncmaaGreatDoorTB09
import Derived.WalkMore
import Derived.Deep.RegionHeld
import Derived.Shelf.Small.Bits
import Derived.Shelf.Strconv.Itoa0
import Derived.Shelf.Strconv.ParseUint10
import Derived.Shelf.Strconv.ParseUint10Any
import Derived.Shelf.Strconv.ParseInt10
import Derived.Shelf.Strconv.ParseUint10b64
import Derived.Shelf.Strconv.ParseUint10At
import Derived.Shelf.Strconv.ParseInt10At64
import Derived.Shelf.Strconv.ParseInt10All
import Derived.Shelf.Strconv.ParseIntPublic10
import Derived.Shelf.Strings.Repeat
set_option linter.unusedVariables false
set_option linter.unusedSimpArgs false
set_option maxRecDepth 100000
set_option maxHeartbeats 16000000
open Bool renaming and_eq_true → aD
open Go.Ending renaming returned → ah
open Go.IntKind renaming i64 → I
open Go.Value renaming agg → aB, bool → aC, int → Z, pointer → au, slice → aj, string → O, tuple → aF
open List renaming all_eq_true → bZ, getElem_mem → bN, take_length → eX, take_succ_eq_append_getElem → fP
open Nat renaming div_add_mod → bU, eq_zero_or_pos → bA, le_refl → aG, lt_of_lt_of_le → aP, lt_or_ge → aH, mod_lt → iD, zero_add → dS
namespace Go.d9
open Go Go.RowKit Go.Num Go.Mem Go.Fx
theorem fA.keep {l:List TypeId} {w w':World} {v:Value} {q:Rat} (h:fA w v q) (k:Kept l w w') (hT:l.contains 22=false:=by kernel_rfl):fA w' v q:=by
 obtain ⟨pa,n,ca,pb,m,cb,h1,h2,h3⟩:=h;exact ⟨pa,n,ca,pb,m,cb,h1,Fx.aT.keep h2 k hT,Fx.aT.keep h3 k hT⟩
theorem RJ {k:Nat} {p q:Rat} (h:rW k p) (i:rW k q):rW (2*k+1) (p - q):=by
 rw [Rat.sub_eq_add_neg];exact JR h (JO i)
def ag0 (w:World) (q:Rat) (e:Ending) (w':World):Prop:=∃ p l c b p' l' c',e= ah (aB #[aj p l c,aC b,aj p' l' c'])∧Below w.heap.size w w'∧fA w' (aB #[aj p l c,aC b,aj p' l' c']) q
theorem Uz {w:World} {q:Rat} {e:Ending} {w':World} (h:∃ v,e= ah v∧Below w.heap.size w w'∧fA w' v q):ag0 w q e w':=by
 obtain ⟨v,rfl,h,hv⟩:=h;obtain ⟨p,l,c,p',l',c',rfl, -⟩:=id hv;exact ⟨p,l,c,_,p',l',c',rfl,h,hv⟩
def X5 (u:Value) (w:World) (q:Rat) (e:Ending) (w':World):Prop:=∃ p l c b p' l' c',e= ah (aF #[aB #[aj p l c,aC b,aj p' l' c'],u])∧Below w.heap.size w w'∧fA w' (aB #[aj p l c,aC b,aj p' l' c']) q
theorem rz {u:Value} {w:World} {q:Rat} {e:Ending} {w':World} (h:∃ v,e= ah (aF #[v,u])∧Below w.heap.size w w'∧fA w' v q):X5 u w q e w':=by
 obtain ⟨v,rfl,h,hv⟩:=h;obtain ⟨p,l,c,p',l',c',rfl, -⟩:=id hv;exact ⟨p,l,c,_,p',l',c',rfl,h,hv⟩
end Go.d9
namespace Go.Proofs.dR
open Go Go.RowKit Go.SW Go.Num Go.Mem Go.Proofs
def ig (x:(Int × Int) × Int):Value:=aF #[aB #[Z I x.1.1,Z I x.1.2],Z I x.2]
def jy (lo hi:Int):Bool:=decide (-1000000000000000000≤lo)&&(decide (lo≤hi)&&decide (hi≤1000000000000000000))
theorem mD (lo hi:Int) (w:World):Calls Tryz.prog 49 #[Z I lo,Z I hi] w (fun e w'=>e= ah (aC (jy lo hi))∧Below w.heap.size w w'):=by
 unfold jy;cases h1:decide (-1000000000000000000≤lo)<;>cases h2:decide (lo≤hi)<;>cases h3:decide (hi≤1000000000000000000)
 all_goals
  go_enter Tryz.func49,Tryz.ntmps49
  go_wp2_with fail
  go_ret
  exact ⟨rfl,Below.refl _ _⟩
theorem jJ (lo hi:Int) (w:World):Calls Tryz.prog 22 #[aB #[Z I lo,Z I hi]] w (fun e w'=>e= ah (Z I (if jy lo hi then 0 else 30))∧Below w.heap.size w w'):=by
 have H:=zh (fun W=>mD lo hi W);generalize jy lo hi=b at *;cases b
 all_goals
  go_enter Tryz.func22,Tryz.ntmps22
  go_wp2_with fail
  refine (H.out _).mono ?_;rintro e w1 ⟨rfl,hb1⟩;have hw:=Bt (show Below w.heap.size w (w.alloc (.cells #[Z I lo,Z I hi] 26)) from aO) hb1;go_wp2_with fail
  go_ret
  exact ⟨rfl,hw⟩
theorem vD (lo hi:Int) (w:World):Calls Tryz.prog 26 #[Z I lo,Z I hi] w (fun e w'=>e= ah (if jy lo hi then aF #[aB #[Z I lo,Z I hi],Z I 0] else aF #[aB #[Z I 0,Z I 0],Z I 30])∧Below w.heap.size w w'):=by
 have H:=zh (fun W=>mD lo hi W);generalize jy lo hi=b at *;cases b
 all_goals
  go_enter Tryz.func26,Tryz.ntmps26
  go_wp2_with fail
  refine (H.out _).mono ?_;rintro e w1 ⟨rfl,hb1⟩;have hx:=aA.later (aA.new w #[Z I 0,Z I 0] 26) hb1;have cx:=hx.cell;have fx:=hx.free;have lx:=hx.lt;have hw:=Bt (show Below w.heap.size w (w.alloc (.cells #[Z I 0,Z I 0] 26)) from aO) hb1;go_wp2_with fail
  refine bE rfl rfl aY Tryz.underlying26 rfl zk ?_;exact ⟨rfl,aO⟩
end Go.Proofs.dR
namespace Go.SW
open Go Go.RowKit
variable {P:Program} {ops:Array Oper} {Q:Exit→Act→World→Prop} {o:Oper} {i:Nat} {is:List (K × Nat)} {a:Act} {w:World} {N:Nat} {A:List Nat}
theorem yE (ho:ops[i]? =some o) (hw:Region.wanted o (yielded ops a.tmps)=true) (h:∀ J:Act→Prop,(∀ a,walk P ops Q N is A a w→J a)→∃ v,(∀ w',(execOp a.eval o).run P w'= .ok (.value v) w')∧J (a.put o.dst v)):walk P ops Q N ((.pure,i)::is) A a w:=by
 refine Lg ho fun J hJ=>?_;rw [if_pos hw];exact h J hJ
theorem yF {T:TypeId} {x:Operand} {p:Addr} (ho:ops[i]? =some o) (hw:Region.wanted o (yielded ops a.tmps)=true) (hop:o.op= .load T x) (hx:a.eval x= au (some p))
  (h:∀ J:Value→Prop,(∀ v,walk P ops Q N is A (a.put o.dst v) w→J v)→(w.cell? p).isSome=true∧∃ v,(loadVar T p).run P w= .ok v w∧J v):walk P ops Q N ((.read,i)::is) A a w:=by
 unfold walk;simp only [ho,hw,if_true];obtain ⟨h1,v,h2,h3⟩:=h (fun v=>walk P ops Q N is A (a.put o.dst v) w) fun _ h=>h;refine ⟨v,fun w' hb=>?_,h3⟩;simp only [execOp,hop,hx,Instr.loadAt,Instr.sureAddr,Sem.run_bind,Sem.run_pure,Result.andThen_ok,tK hb h1 h2]
theorem Lh (ho:ops[i]? =some o) (hw:Region.wanted o (yielded ops a.tmps)=true) (h:∀ w',Below w.heap.size w w'→∀ J:Act→World→Prop,(∀ a' w'',Below w'.heap.size w' w''→walk P ops Q N is A a' w''→J a' w'')→o.wp P a w' J Q):walk P ops Q N ((.ext,i)::is) A a w:=by
 unfold walk;simp only [ho,hw,if_true];exact fun w' hb=>h w' hb _ fun a' w'' h1 h2=>⟨h1,h2⟩
def K.soft:K→Bool
 | .pure=>true
 | .read=>true
 | .ext=>true
 | _=>false
theorem rV {k:K} (hk:k.soft=true) (ho:ops[i]? =some o) (hw:Region.wanted o (yielded ops a.tmps)=false) (h:∀ J:Act→Prop,(∀ a,walk P ops Q N is A a w→J a)→J (a.put o.dst undef)):walk P ops Q N ((k,i)::is) A a w:=by
 have h':=h (fun a=>walk P ops Q N is A a w) fun _ h=>h;cases k with
 | pure=>unfold walk;simp only [ho,hw];exact h'
 | read=>unfold walk;simp only [ho,hw];exact h'
 | ext=>unfold walk;simp only [ho,hw];exact h'
 | alloc _ _=>cases hk
 | fin=>cases hk
end Go.SW
namespace Go.d9
open Go Go.RowKit Go.Num Go.Mem
def DZ (w:World) (_T:TypeId) (v:Value) (l:List (Int × Int)):Prop :=
 ∃ a cap,v= aj a l.length cap∧l.length≤cap∧cap≤9223372036854775807∧∀ k (_:k<l.length),∃ b off,a=some ⟨b,off,none⟩∧b<w.heap.size∧w.cell? ⟨b,off+k*2,none⟩=some (.int .i64 l[k].1)∧w.cell? ⟨b,off+k*2+1,none⟩=some (.int .i64 l[k].2)
theorem DZ.later {w w':World} {T:TypeId} {v:Value} {l:List (Int × Int)} (h:DZ w T v l) (hb:Below w.heap.size w w'):DZ w' T v l:=by
 obtain ⟨a,cap,h1,h2,h3,h4⟩:=h;refine ⟨a,cap,h1,h2,h3,fun k hk=>?_⟩;obtain ⟨b,off,h5,h6,h7,h8⟩:=h4 k hk;exact ⟨b,off,h5,aP h6 hb.size,(hb.cell (p:=⟨b,off+k*2,none⟩) h6).trans h7,(hb.cell (p:=⟨b,off+k*2+1,none⟩) h6).trans h8⟩
theorem DZ.read {w:World} {T:TypeId} {v:Value} {l:List (Int × Int)} (h:DZ w T v l) :
  ∃ a cap,v= aj a l.length cap∧l.length≤cap∧cap≤9223372036854775807∧∀ k (_:k<l.length),∃ b off,a=some ⟨b,off,none⟩∧b<w.heap.size∧w.cell? ⟨b,off+k*2,none⟩=some (.int .i64 l[k].1)∧w.cell? ⟨b,off+k*2+1,none⟩=some (.int .i64 l[k].2):=h
theorem DZ.zC {w:World} {T:TypeId} {b n c:Nat} {arr:Array Value} {l:List (Int × Int)} (h:aA w b arr T) (hn:l.length=n) (hc:n≤c) (hm:c≤9223372036854775807) (k:∀ i (h:i<l.length),arr[i*2]? =some (.int .i64 l[i].1)∧arr[i*2+1]? =some (.int .i64 l[i].2)):DZ w T (aj (some ⟨b,0,none⟩) n c) l:=by
 subst hn;refine ⟨_,_,rfl,hc,hm,fun i hi=>⟨b,0,rfl,h.lt,?_,?_⟩⟩
 ·rw [h.cell,dS];exact (k i hi).1
 ·rw [h.cell,dS];exact (k i hi).2
def okB (l:List (Int × Int)):Bool:=l.all fun b=>Go.Proofs.dR.jy b.1 b.2
theorem DZ.one {w:World} {T:TypeId} {b:Nat} {lo hi:Int} (h:aA w b #[Z I lo,Z I hi] T):DZ w T (aj (some ⟨b,0,none⟩) 1 1) [(lo,hi)] :=
 DZ.zC h rfl (aG _) zo fun i hi=>by
  have:i<1:=hi;obtain rfl:i=0:=by omega
  exact ⟨rfl,rfl⟩
theorem DZ.two {w:World} {T:TypeId} {b:Nat} {x1 x2 x3 x4:Int} (h:aA w b #[Z I x1,Z I x2,Z I x3,Z I x4] T):DZ w T (aj (some ⟨b,0,none⟩) 2 2) [(x1,x2),(x3,x4)] :=
 DZ.zC h rfl (aG _) zo fun i hi=>by
  have:i<2:=hi;obtain rfl|rfl:i=0∨i=1:=by omega
  ·exact ⟨rfl,rfl⟩
  ·exact ⟨rfl,rfl⟩
end Go.d9
namespace Go.Proofs.dR
open Go Go.RowKit Go.SW Go.Num Go.Mem Go.Proofs Go.d9
def iV (lo hi:Int):(Int × Int) × Int:=if jy lo hi then ((lo,hi),0) else ((0,0),6)
theorem CY (lo hi:Int) (w:World):Calls Tryz.prog 105 #[Z I lo,Z I hi] w (fun e w'=>e= ah (ig (iV lo hi))∧Below w.heap.size w w'):=by
 have H:=zh (fun W=>mD lo hi W);unfold iV;generalize jy lo hi=b at *;unfold ig;cases b
 all_goals
  go_enter Tryz.func105,Tryz.ntmps105
  go_wp2_with fail
  refine (H.out _).mono ?_;rintro e w1 ⟨rfl,hb1⟩;have hx:=aA.later (aA.new w #[Z I 0,Z I 0] 26) hb1;have cx:=hx.cell;have fx:=hx.free;have lx:=hx.lt;have hw:=Bt (show Below w.heap.size w (w.alloc (.cells #[Z I 0,Z I 0] 26)) from aO) hb1;go_wp2_with fail
  refine bE rfl rfl aY Tryz.underlying26 rfl zk ?_;exact ⟨rfl,aO⟩
theorem Ya (b c:Nat) (zs:List Int) (z0:Int) (h0:zs[0]? =some z0) (arr:Array Value) (T:TypeId) (w:World) (hx:aA w b arr T) (hc:∀ j (h:j<zs.length),arr[j]? =some (.int .i64 zs[j])) (hl:zs.length≤9223372036854775807) :
  Calls Tryz.prog 177 #[aj (some ⟨b,0,none⟩) zs.length c] w (fun e w'=>e= ah (Z I (zs.foldl max z0))∧Below w.heap.size w w'):=by
 have hn:0<zs.length:=by
  rcases bA zs.length with h|h
  ·rw [List.getElem?_eq_none zo] at h0;cases h0
  ·exact h
 have hz0:zs[0]=z0:=by
  rw [List.getElem?_eq_getElem hn] at h0;exact Option.some.inj h0
 have h00:w.cell? ⟨b,0,none⟩=some (.int .i64 z0):=by
  rw [hx.cell,hc 0 hn,hz0]
 have lb:=hx.lt;have g1:decide ((zs.length:Int)<1)=false:=by simp;omega
 have HX:=zh hx;have HC:=zh hc;clear hx hc;go_enter Tryz.func177,Tryz.ntmps177
 go_wp2_with fail
 go_loopw [3,4] (fun m i wr=>∃ k:Nat,0<k∧k≤zs.length∧i= Z I (k:Int)∧m= Z I ((zs.take k).foldl max z0)∧Below w.heap.size w wr) (fun _ i _=>zs.length - (intOf i).toNat)
 case atStart =>
  refine ⟨1,by omega,hn,rfl,?_,Below.refl _ _⟩;cases zs with
  | nil=>simp at hn
  | cons x t =>
   simp only [List.getElem_cons_zero] at hz0;subst hz0;simp
 case round =>
  obtain ⟨k,hk0,hk,rfl,rfl,hb⟩:=hrel
  by_cases hlt:k<zs.length
  ·have hcell:=((HX.out.later hb).cell k).trans (HC.out k hlt)
   have hstep:(zs.take (k+1)).foldl max z0=max ((zs.take k).foldl max z0) zs[k]:=by
    rw [fP hlt,List.foldl_append];rfl
   have HS:=zh hstep;clear hstep;generalize zs[k]=zk at *;generalize (zs.take k).foldl max z0=mk at *;go_wp2_with fail
   go_roundw
   case rel=>exact ⟨k+1,by omega,by omega,by go_num,by rw [HS.out]<;>go_num,hb⟩
   case measure=>exact zM
  ·obtain rfl:k=zs.length:=by omega
   rw [eX];go_wp2_with fail
   go_ret
   exact ⟨rfl,hb⟩
theorem FW (b c:Nat) (zs:List Int) (z0:Int) (h0:zs[0]? =some z0) (arr:Array Value) (T:TypeId) (w:World) (hx:aA w b arr T) (hc:∀ j (h:j<zs.length),arr[j]? =some (.int .i64 zs[j])) (hl:zs.length≤9223372036854775807) :
  Calls Tryz.prog 107 #[aj (some ⟨b,0,none⟩) zs.length c] w (fun e w'=>e= ah (Z I (zs.foldl max z0))∧Below w.heap.size w w'):=by
 have H:=zh (Ya b c zs z0 h0 arr T w hx hc hl);clear h0 hx hc hl;generalize zs.length=n at *;generalize zs.foldl max z0=z at *;go_enter Tryz.func107,Tryz.ntmps107
 go_wp2_with fail
 refine H.out.mono ?_;rintro e w1 ⟨rfl,hb1⟩;go_wp2_with fail
 go_ret
 exact ⟨rfl,hb1⟩
theorem qA (F:FuncId) (free:Array Value) (z:(Int × Int) × Int) (T:TypeId) (v:Value) (l:List (Int × Int)) (w:World) (hv:DZ w T v l)
  (h1:okB l=true→∀ W,Below w.heap.size w W→Calls Tryz.prog F free W (fun e w'=>e= ah (ig z)∧Below W.heap.size W w'))
  (hen:∀ args W,(callFunc F args).run Tryz.prog W= .ok (.enter F args) W) :
  Calls Tryz.prog 53 #[.func (.func F) #[] free,v] w (fun e w'=>e= ah (ig (if okB l then z else ((0,0),30)))∧Below w.heap.size w w'):=by
 obtain ⟨a,cap,rfl,hc1,hc2,hread⟩:=hv.read;have HR:=zh hread;have H1:=zh h1;clear h1 hv hread;obtain ⟨z',EZ⟩:∃ y,(if okB l then z else ((0,0),30))=y:=⟨_,rfl⟩;rw [EZ];have HZ:=zh EZ;clear EZ;obtain ⟨⟨z1,z2⟩,z3⟩:=z';unfold ig at *;simp only at *;go_enter Tryz.func53,Tryz.ntmps53
 go_wp2_with fail
 obtain ⟨wx,EW,hz,R⟩:=Nf w #[Z I 0,Z I 0] 26;rw [EW];clear EW;have HB:=zh hz;clear hz;obtain ⟨bx,eb⟩:∃ y,w.heap.size=y:=⟨_,rfl⟩;rw [eb] at R ⊢;go_wp2_with fail
 go_loopw [11] (fun iv wr=>∃ k:Nat,iv= Z I (k:Int)∧k≤l.length∧Hid (∀ j (h:j<l.length),j<k→jy l[j].1 l[j].2=true)∧Below wx.heap.size wx wr) (fun iv _=>l.length - (intOf iv).toNat)
 case atStart=>exact ⟨0,rfl,by omega,zh (fun j _ h=>by omega),Below.refl _ _⟩
 case round =>
  obtain ⟨k,rfl,hk,HK,hb⟩:=hrel
  rcases aH k l.length with hlt|hge
  ·obtain ⟨b,off,rfl,hbl,hx1,hx2⟩:=HR.out k hlt;have hB:=Bt HB.out hb;have hc1:=(hB.cell (p:=⟨b,off+k*2,none⟩) hbl).trans hx1;have hc2:=(hB.cell (p:=⟨b,off+k*2+1,none⟩) hbl).trans hx2;clear hx1 hx2;have HV:=zh (fun W=>mD l[k].1 l[k].2 W);obtain ⟨bk,EK⟩:∃ y,jy l[k].1 l[k].2=y:=⟨_,rfl⟩;have HE:=zh EK;rw [EK] at HV;clear EK;generalize hlk:l[k]=lk at *;have YZ:=zh hlk;clear hlk;obtain ⟨y1,y2⟩:=lk;simp only at *;replace R:=R.bl hb;go_wp2_with fail
   obtain ⟨wy,EW,hz,Y⟩:=Nf wr #[Z I y1,Z I y2] 26;rw [EW];clear EW;refine (HV.out _).mono ?_;rintro e w1 ⟨rfl,hb1⟩;have hw:=Bt hb (Bt hz hb1);replace R:=(R.bl hz).bl hb1;clear hc1 hc2 hz hb1 Y HV;cases bk
   ·have hx:=R.out;have cx:=hx.cell;have fx:=hx.free;have lx:=hx.lt;go_wp2_with fail
    refine bE rfl rfl aY Tryz.underlying26 rfl zk ?_
    have hno:okB l=false:=by
     unfold okB;rw [List.all_eq_false];refine ⟨l[k],bN _,?_⟩;rw [YZ.out,HE.out];simp
    have he:=HZ.out;rw [hno] at he;cases he
    have hB2:=Bt HB.out hw;exact ⟨rfl,aO⟩
   ·go_wp2_with fail
    go_roundw
    case rel =>
     refine ⟨k+1,by go_num,by omega,zh fun j hj hjk=>?_,hw⟩
     rcases aH j k with h|h
     ·exact HK.out j hj h
     ·obtain rfl:j=k:=by omega
      rw [YZ.out,HE.out]
    case measure=>exact zM
  ·obtain rfl:k=l.length:=by omega
   have hyes:okB l=true:=by
    unfold okB;rw [bZ];intro x hx;obtain ⟨j,hj,rfl⟩:=List.getElem_of_mem hx;exact HK.out j hj hj
   have he:=HZ.out;rw [if_pos hyes] at he;subst he;have HH:=zh (H1.out hyes);simp only at HH;clear hyes H1;replace R:=R.bl hb;have hB:=Bt HB.out hb;go_wp2_with fail
   refine (HH.out _ hB).mono ?_;rintro e w1 ⟨rfl,hb1⟩;have hw:=Bt hB hb1;replace R:=R.bl hb1;have hx:=R.out;have cx:=hx.cell;have fx:=hx.free;have lx:=hx.lt;clear hb1;go_wp2_with fail
   refine bE rfl rfl aY Tryz.underlying26 rfl zk ?_;exact ⟨rfl,aO⟩
def oz (n:Int) (d:Nat) (up:Bool):Int:=if up then -(-n / (d:Int)) else n / (d:Int)
def qL (p d:Nat) (b:Bool):Nat:=if 0<p%d∧b=true then p / d+1 else p / d
theorem Kh (p d:Nat) (hd:0<d): -(p:Int) / (d:Int)= -((qL p d true:Nat):Int):=by
 have h:=bU p d;have hr:=iD p hd;unfold qL;generalize p / d=q at *;generalize p%d=r at *
 have e: -(p:Int)= -(r:Int)+(d:Int)* -(q:Int):=by
  rw [← h,Int.natCast_add,Int.natCast_mul,Int.mul_neg];omega
 rw [e,Int.add_mul_ediv_left _ _ zo]
 by_cases h0:0<r
 ·rw [if_pos ⟨h0,rfl⟩]
  have: -(r:Int) / (d:Int)= -1:=by
   refine Int.le_antisymm ?_ ?_
   ·have:=(Int.ediv_lt_iff_lt_mul (a:= -(r:Int)) (b:=0) (c:=(d:Int)) zo).2 zo;omega
   ·rw [Int.le_ediv_iff_mul_le zo];omega
  rw [this];omega
 ·obtain rfl:r=0:=by omega
  rw [if_neg zo];simp
theorem V5 (x y:Int) {d:Nat} (hd:0<d) (up:Bool):oz (x*y) d up=iZ (qL (x.natAbs*y.natAbs) d (up != (decide (x<0) != decide (y<0)))) (decide (x<0) != decide (y<0)):=by
 rw [← yP x y];generalize x.natAbs*y.natAbs=p;generalize (decide (x<0) != decide (y<0))=neg
 have hf:((p:Int)) / (d:Int)=((qL p d false:Nat):Int):=by
  unfold qL;rw [if_neg zi];omega
 have hn:=Kh p d hd;unfold oz iZ;cases neg<;>cases up<;>simp [hf,hn]
def jL (x y:Int) (d:Nat) (up:Bool):Int × Bool:=if (oz (x*y) d up).natAbs≤1000000000000000000 then (oz (x*y) d up,true) else (0,false)
theorem Fg (x y:Int) {d:Nat} (hd:0<d) (up:Bool):jL x y d up=if qL (x.natAbs*y.natAbs) d (up != (decide (x<0) != decide (y<0)))≤1000000000000000000 then (iZ (qL (x.natAbs*y.natAbs) d (up != (decide (x<0) != decide (y<0)))) (decide (x<0) != decide (y<0)),true) else (0,false):=by
 unfold jL;rw [V5 x y hd,jg]
def iU (N:Int) (d:Nat):Int:=(2*N+d) / (2*(d:Int))
theorem FC (N:Int) {d:Nat} (hd:0<d):iU N d*(2*(d:Int))≤2*N+d∧2*N+d<(iU N d+1)*(2*(d:Int)):=by
 unfold iU;refine ⟨Int.ediv_mul_le _ zo,?_⟩;have:=Int.lt_ediv_add_one_mul_self (2*N+(d:Int)) (b:=2*(d:Int)) zo;exact this
theorem zl {N n:Int} {d:Nat} (hd:0<d) (h1:n*(d:Int)≤N) (h2:N<(n+1)*(d:Int)):oz N d false=n:=by
 unfold oz;rw [if_neg zi];refine Int.le_antisymm ?_ ((Int.le_ediv_iff_mul_le zo).2 h1);have:=(Int.ediv_lt_iff_lt_mul (c:=(d:Int)) zo).2 h2;omega
theorem Iq {N n:Int} {d:Nat} (hd:0<d) (h1:(n - 1)*(d:Int)<N) (h2:N≤n*(d:Int)):oz N d true=n:=by
 unfold oz;rw [if_pos rfl]
 have: -N / (d:Int)= -n:=by
  refine Int.le_antisymm ?_ ((Int.le_ediv_iff_mul_le zo).2 (by rw [Int.neg_mul];omega))
  have:=(Int.ediv_lt_iff_lt_mul (a:= -N) (b:= -n+1) (c:=(d:Int)) zo).2 (by
   have e:(-n+1)*(d:Int)= -((n - 1)*(d:Int)):=by rw [← Int.neg_mul];congr 1;omega
   rw [e];omega)
  omega
 omega
def arE (N:Int) (d:Nat):(Int × Int) × Int :=
 if -9223372036854775808≤iU N d∧iU N d<9223372036854775808 then
  (if jy (iU N d) (iU N d) then iV (iU N d+(if N<iU N d*d then -1 else 0)) (iU N d+(if iU N d*d<N then 1 else 0)) else ((0,0),6))
 else ((0,0),6)
theorem XV (N:Int) {d:Nat} (hd:0<d):arE N d=iV (oz N d false) (oz N d true):=by
 obtain ⟨h1,h2⟩:=FC N hd;have m1:iU N d*(2*(d:Int))=2*(iU N d*(d:Int)):=by rw [← Int.mul_assoc,Int.mul_comm (iU N d) 2,Int.mul_assoc]
 have m2:(iU N d+1)*(2*(d:Int))=2*(iU N d*(d:Int))+2*(d:Int):=by rw [Int.add_mul,m1,Int.one_mul]
 rw [m1] at h1;rw [m2] at h2;unfold arE;generalize iU N d=n at *;have e1:(n+1)*(d:Int)=n*(d:Int)+d:=by rw [Int.add_mul,Int.one_mul]
 have e2:(n - 1)*(d:Int)=n*(d:Int) - d:=by rw [Int.sub_mul,Int.one_mul]
 have e3:(n - 1+1)*(d:Int)=n*(d:Int):=by congr 1;omega
 have e4:(n+1 - 1)*(d:Int)=n*(d:Int):=by congr 1;omega
 have key:∃ lo hi,oz N d false=lo∧oz N d true=hi∧lo=n+(if N<n*(d:Int) then -1 else 0)∧hi=n+(if n*(d:Int)<N then 1 else 0):=by
  rcases Int.lt_trichotomy N (n*(d:Int)) with c|c|c
  ·refine ⟨n - 1,n,zl hd zo zo,Iq hd zo zo,by rw [if_pos c];omega,by rw [if_neg zo];omega⟩
  ·refine ⟨n,n,zl hd zo zo,Iq hd zo zo,by rw [if_neg zo];omega,by rw [if_neg zo];omega⟩
  ·refine ⟨n,n+1,zl hd zo zo,Iq hd zo zo,by rw [if_neg zo];omega,by rw [if_pos c]⟩
 obtain ⟨lo,hi,k1,k2,k3,k4⟩:=key;rw [k1,k2,← k3,← k4];have hlo:lo=n∨lo=n - 1:=by rw [k3];split<;>omega
 have hhi:hi=n∨hi=n+1:=by rw [k4];split<;>omega
 have hor:lo=n∨hi=n:=by
  rw [k3,k4]
  by_cases c:N<n*(d:Int)
  ·right;rw [if_neg zo];omega
  ·left;rw [if_neg c];omega
 by_cases c1: -9223372036854775808≤n∧n<9223372036854775808
 ·rw [if_pos c1];cases hb:jy n n
  ·rw [if_neg zi];unfold iV;rw [if_neg];intro h;unfold jy at hb h;simp only [aD,decide_eq_true_eq,Bool.and_eq_false_iff,decide_eq_false_iff_not] at hb h;omega
  ·rw [if_pos rfl]
 ·rw [if_neg c1];unfold iV;rw [if_neg];intro h;unfold jy at h;simp only [aD,decide_eq_true_eq] at h;omega
end Go.Proofs.dR
namespace Go.d9
open Go Go.Num
theorem zF (q:Rat) (E:Nat):q*((E:Nat):Rat)*((q.den:Nat):Rat)=((q.num*(E:Int):Int):Rat):=by
 have h:q*((q.den:Nat):Rat)=((q.num:Int):Rat):=by
  have h1:((q.num:Int):Rat) / ((q.den:Nat):Rat)=q:=by
   have:=Rat.mkRat_eq_div q.num q.den;rw [← this,Rat.mkRat_self]
  have h2:((q.den:Nat):Rat)≠0:=by have:=q.den_nz;exact_mod_cast this
  generalize ((q.den:Nat):Rat)=d at *;generalize ((q.num:Int):Rat)=m at *
  grind
 rw [Rat.intCast_mul,← h,Rat.intCast_natCast]
 grind
theorem O8 (q:Rat) (n:Int) {E:Nat} (hE:0<E):q<(n:Rat) / ((E:Nat):Rat)↔q.num*(E:Int)<n*(q.den:Int):=by
 have hEq:(0:Rat)<((E:Nat):Rat):=by exact_mod_cast hE
 have hd:(0:Rat)<((q.den:Nat):Rat):=by exact_mod_cast q.den_pos
 rw [Rat.lt_div_iff hEq,← Rat.mul_lt_mul_right hd,zF,← Rat.intCast_natCast,← Rat.intCast_mul,Rat.intCast_lt_intCast]
theorem NR (q:Rat) (n:Int) {E:Nat} (hE:0<E):(n:Rat) / ((E:Nat):Rat)<q↔n*(q.den:Int)<q.num*(E:Int):=by
 have hEq:(0:Rat)<((E:Nat):Rat):=by exact_mod_cast hE
 have hd:(0:Rat)<((q.den:Nat):Rat):=by exact_mod_cast q.den_pos
 rw [Rat.div_lt_iff hEq,← Rat.mul_lt_mul_right hd,zF,← Rat.intCast_natCast,← Rat.intCast_mul,Rat.intCast_lt_intCast]
theorem MU (q:Rat) (n:Int) {E:Nat} (hE:0<E):jk q ((n:Rat) / ((E:Nat):Rat))=if q.num*(E:Int)<n*(q.den:Int) then -1 else if n*(q.den:Int)<q.num*(E:Int) then 1 else 0:=by
 unfold jk;simp only [O8 q n hE,NR q n hE]
end Go.d9
namespace Go.SW
open Go Go.RowKit
structure Wk (P:Program) (ops:Array Oper) (Q:Exit→Act→World→Prop) (N:Nat) (is:List (K × Nat)) (A:List Nat) (a:Act) (w:World):Prop where
 out:walk P ops Q N is A a w
variable {P:Program} {ops:Array Oper} {Q:Exit→Act→World→Prop} {o:Oper} {i:Nat} {is:List (K × Nat)} {a:Act} {w:World} {N:Nat} {A:List Nat}
theorem JK {k:K} (hk:k.soft=true) (ho:ops[i]? =some o) (hw:Region.wanted o (yielded ops a.tmps)=false) (h:∀ J:Act→Prop,(∀ a,Wk P ops Q N is A a w→J a)→J (a.put o.dst undef)):Wk P ops Q N ((k,i)::is) A a w :=
 ⟨rV hk ho hw fun J hJ=>h J fun a ha=>hJ a ha.out⟩
theorem Cr (ho:ops[i]? =some o) (hw:Region.wanted o (yielded ops a.tmps)=true) (h:∀ J:Act→Prop,(∀ a,Wk P ops Q N is A a w→J a)→∃ v,(∀ w',(execOp a.eval o).run P w'= .ok (.value v) w')∧J (a.put o.dst v)):Wk P ops Q N ((.pure,i)::is) A a w :=
 ⟨yE ho hw fun J hJ=>h J fun a ha=>hJ a ha.out⟩
theorem JL {T:TypeId} {x:Operand} {p:Addr} (ho:ops[i]? =some o) (hw:Region.wanted o (yielded ops a.tmps)=true) (hop:o.op= .load T x) (hx:a.eval x= au (some p))
  (h:∀ J:Value→Prop,(∀ v,Wk P ops Q N is A (a.put o.dst v) w→J v)→(w.cell? p).isSome=true∧∃ v,(loadVar T p).run P w= .ok v w∧J v):Wk P ops Q N ((.read,i)::is) A a w :=
 ⟨yF ho hw hop hx fun J hJ=>h J fun v hv=>hJ v hv.out⟩
theorem Ih (ho:ops[i]? =some o) (hw:Region.wanted o (yielded ops a.tmps)=true) (h:∀ w',Below w.heap.size w w'→∀ J:Act→World→Prop,(∀ a' w'',Below w'.heap.size w' w''→Wk P ops Q N is A a' w''→J a' w'')→o.wp P a w' J Q):Wk P ops Q N ((.ext,i)::is) A a w :=
 ⟨Lh ho hw fun w' hb J hJ=>h w' hb J fun a' w'' hb' hk=>hJ a' w'' hb' hk.out⟩
theorem NM (l:List Oper) (hl:(i::is.map (·.2)).map (ops[·]?)=l.map some) (h:∀ w',Below w.heap.size w w'→wpList P ops Q l a w'):Wk P ops Q N ((.fin,i)::is) A a w:=⟨bT l hl h⟩
theorem NK {t:TypeId} {x:Operand} {p:Option Addr} {n c:Nat} (ho:ops[i]? =some o) (hw:Region.wanted o (yielded ops a.tmps)=true) (hop:o.op= .call { callee:=.builtin .len,args:=#[x],argTypes:=#[t] }) (hx:a.eval x= aj p n c) (ht:P.underlying t=some (.slice (P.elem t)))
  (h:∀ J:Act→Prop,(∀ a,Wk P ops Q N is A a w→J a)→J (a.put o.dst (Z I n))):Wk P ops Q N ((.pure,i)::is) A a w :=
 Cr ho hw fun J hJ=>⟨Z I n,fun w'=>by simp [execOp,hop,hx,resolve,invoke,builtin,Sem.run_bind,run_len_slice w' _ _ _ _ _ ht,goInt],h J hJ⟩
end Go.SW
namespace Go.Proofs
open Go.Shelf
def Tryz.lays134_ren:Go.Shelf.Ren:=⟨fun|134=>178|129=>251|n=>n,fun|53=>168|3=>3|4=>4|46=>249|5=>5|9=>9|n=>n,fun|n=>n⟩
theorem Tryz.lays134:Go.Proofs.Lays.n134 Tryz.prog Tryz.lays134_ren:={
 mixed:=by kernel_rfl
 f129:=Tryz.func251.trans (congrArg some zk)
 f134:=Tryz.func178.trans (congrArg some zk)
 t3:=Tryz.underlying3
 a3:=Tryz.isAgg3
 z3:=Tryz.sizeOf3
 v3:=Tryz.zeroValue3
 t4:=Tryz.underlying4
 a4:=Tryz.isAgg4
 z4:=Tryz.sizeOf4
 v4:=Tryz.zeroValue4
 t5:=Tryz.underlying5
 a5:=Tryz.isAgg5
 z5:=Tryz.sizeOf5
 v5:=Tryz.zeroValue5
 t9:=Tryz.underlying9
 a9:=Tryz.isAgg9
 z9:=Tryz.sizeOf9
 v9:=Tryz.zeroValue9
 t46:=Tryz.underlying249
 a46:=Tryz.isAgg249
 z46:=Tryz.sizeOf249
 v46:=Tryz.zeroValue249
 t53:=Tryz.underlying168
 a53:=Tryz.isAgg168
 z53:=Tryz.sizeOf168
 v53:=Tryz.zeroValue168 }
theorem Tryz.bits_LeadingZeros64 (x:Int) (w:World) (h0:0≤x) (h1:x≤18446744073709551615) :
  Calls Tryz.prog 178 #[Z .u64 x] w fun e w'=>e= ah (Z I (64 - (Lib.bitLen x.toNat:Int)))∧w'=w:=Any.bits_LeadingZeros64 Tryz.lays134 x w h0 h1
def Tryz.laysC174_ren:Go.Shelf.Ren:=⟨fun|174=>250|247=>288|245=>289|287=>306|279=>307|280=>308|281=>309|282=>310|321=>316|322=>317|316=>318|171=>149|205=>319|243=>223|246=>277|283=>299|284=>300|285=>301|286=>302|129=>251|317=>312|318=>313|319=>314|320=>315|337=>320|338=>321|n=>n,fun|9=>9|3=>3|2=>2|75=>251|85=>313|4=>4|167=>352|5=>5|53=>168|175=>353|46=>249|168=>355|37=>288|0=>0|210=>367|21=>21|127=>332|145=>372|143=>370|171=>345|173=>347|212=>360|51=>22|20=>20|213=>361|232=>373|233=>374|80=>224|n=>n,fun|15=>6|16=>7|17=>4|18=>8|19=>9|n=>n⟩
theorem Tryz.laysC174:Go.Proofs.LaysC.n174 Tryz.prog Tryz.laysC174_ren:={
 mixed:=by kernel_rfl
 f129:=Tryz.func251.trans (congrArg some zk)
 f171:=Tryz.func149.trans (congrArg some zk)
 f174:=Tryz.func250.trans (congrArg some zk)
 f205:=Tryz.func319.trans (congrArg some zk)
 f243:=Tryz.func223.trans (congrArg some zk)
 f245:=Tryz.func289.trans (congrArg some zk)
 f246:=Tryz.func277.trans (congrArg some zk)
 f247:=Tryz.func288.trans (congrArg some zk)
 f279:=Tryz.func307.trans (congrArg some zk)
 f280:=Tryz.func308.trans (congrArg some zk)
 f281:=Tryz.func309.trans (congrArg some zk)
 f282:=Tryz.func310.trans (congrArg some zk)
 f283:=Tryz.func299.trans (congrArg some zk)
 f284:=Tryz.func300.trans (congrArg some zk)
 f285:=Tryz.func301.trans (congrArg some zk)
 f286:=Tryz.func302.trans (congrArg some zk)
 f287:=Tryz.func306.trans (congrArg some zk)
 f316:=Tryz.func318.trans (congrArg some zk)
 f317:=Tryz.func312.trans (congrArg some zk)
 f318:=Tryz.func313.trans (congrArg some zk)
 f319:=Tryz.func314.trans (congrArg some zk)
 f320:=Tryz.func315.trans (congrArg some zk)
 f321:=Tryz.func316.trans (congrArg some zk)
 f322:=Tryz.func317.trans (congrArg some zk)
 f337:=Tryz.func320.trans (congrArg some zk)
 f338:=Tryz.func321.trans (congrArg some zk)
 t0:=Tryz.underlying0
 a0:=Tryz.isAgg0
 z0:=Tryz.sizeOf0
 v0:=Tryz.zeroValue0
 t2:=Tryz.underlying2
 a2:=Tryz.isAgg2
 z2:=Tryz.sizeOf2
 v2:=Tryz.zeroValue2
 t3:=Tryz.underlying3
 a3:=Tryz.isAgg3
 z3:=Tryz.sizeOf3
 v3:=Tryz.zeroValue3
 t4:=Tryz.underlying4
 a4:=Tryz.isAgg4
 z4:=Tryz.sizeOf4
 v4:=Tryz.zeroValue4
 t5:=Tryz.underlying5
 a5:=Tryz.isAgg5
 z5:=Tryz.sizeOf5
 v5:=Tryz.zeroValue5
 t9:=Tryz.underlying9
 a9:=Tryz.isAgg9
 z9:=Tryz.sizeOf9
 v9:=Tryz.zeroValue9
 t20:=Tryz.underlying20
 a20:=Tryz.isAgg20
 z20:=Tryz.sizeOf20
 v20:=Tryz.zeroValue20
 t21:=Tryz.underlying21
 a21:=Tryz.isAgg21
 z21:=Tryz.sizeOf21
 v21:=Tryz.zeroValue21
 t37:=Tryz.underlying288
 a37:=Tryz.isAgg288
 z37:=Tryz.sizeOf288
 v37:=Tryz.zeroValue288
 t46:=Tryz.underlying249
 a46:=Tryz.isAgg249
 z46:=Tryz.sizeOf249
 v46:=Tryz.zeroValue249
 t51:=Tryz.underlying22
 a51:=Tryz.isAgg22
 z51:=Tryz.sizeOf22
 v51:=Tryz.zeroValue22
 t53:=Tryz.underlying168
 a53:=Tryz.isAgg168
 z53:=Tryz.sizeOf168
 v53:=Tryz.zeroValue168
 t75:=Tryz.underlying251
 a75:=Tryz.isAgg251
 z75:=Tryz.sizeOf251
 v75:=Tryz.zeroValue251
 t85:=Tryz.underlying313
 a85:=Tryz.isAgg313
 z85:=Tryz.sizeOf313
 v85:=Tryz.zeroValue313
 t127:=Tryz.underlying332
 a127:=Tryz.isAgg332
 z127:=Tryz.sizeOf332
 v127:=Tryz.zeroValue332
 t143:=Tryz.underlying370
 a143:=Tryz.isAgg370
 z143:=Tryz.sizeOf370
 v143:=Tryz.zeroValue370
 t145:=Tryz.underlying372
 a145:=Tryz.isAgg372
 z145:=Tryz.sizeOf372
 v145:=Tryz.zeroValue372
 t167:=Tryz.underlying352
 a167:=Tryz.isAgg352
 z167:=Tryz.sizeOf352
 v167:=Tryz.zeroValue352
 t168:=Tryz.underlying355
 a168:=Tryz.isAgg355
 z168:=Tryz.sizeOf355
 v168:=Tryz.zeroValue355
 t171:=Tryz.underlying345
 a171:=Tryz.isAgg345
 z171:=Tryz.sizeOf345
 v171:=Tryz.zeroValue345
 t173:=Tryz.underlying347
 a173:=Tryz.isAgg347
 z173:=Tryz.sizeOf347
 v173:=Tryz.zeroValue347
 t175:=Tryz.underlying353
 a175:=Tryz.isAgg353
 z175:=Tryz.sizeOf353
 v175:=Tryz.zeroValue353
 t210:=Tryz.underlying367
 a210:=Tryz.isAgg367
 z210:=Tryz.sizeOf367
 v210:=Tryz.zeroValue367
 t212:=Tryz.underlying360
 a212:=Tryz.isAgg360
 z212:=Tryz.sizeOf360
 v212:=Tryz.zeroValue360
 t213:=Tryz.underlying361
 a213:=Tryz.isAgg361
 z213:=Tryz.sizeOf361
 t232:=Tryz.underlying373
 a232:=Tryz.isAgg373
 z232:=Tryz.sizeOf373
 v232:=Tryz.zeroValue373
 t233:=Tryz.underlying374
 a233:=Tryz.isAgg374
 z233:=Tryz.sizeOf374
 v233:=Tryz.zeroValue374
 g15:=by kernel_rfl
 g16:=by kernel_rfl
 g17:=by kernel_rfl
 g18:=by kernel_rfl
 g19:=by kernel_rfl
 t80:=Tryz.underlying224
 a80:=Tryz.isAgg224
 z80:=Tryz.sizeOf224
 v80:=Tryz.zeroValue224
 i0:=by kernel_rfl
 i2:=by kernel_rfl
 i3:=by kernel_rfl
 i4:=by kernel_rfl
 i5:=by kernel_rfl
 i9:=by kernel_rfl
 i20:=by kernel_rfl
 i21:=by kernel_rfl
 i37:=by kernel_rfl
 i46:=by kernel_rfl
 i51:=by kernel_rfl
 i53:=by kernel_rfl
 i75:=by kernel_rfl
 i80:=by kernel_rfl
 i85:=by kernel_rfl
 i127:=by kernel_rfl
 i143:=by kernel_rfl
 i145:=by kernel_rfl
 i167:=by kernel_rfl
 i168:=by kernel_rfl
 i171:=by kernel_rfl
 i173:=by kernel_rfl
 i175:=by kernel_rfl
 i210:=by kernel_rfl
 i212:=by kernel_rfl
 i232:=by kernel_rfl
 i233:=by kernel_rfl
 m15:=by kernel_rfl
 m16:=by kernel_rfl
 m17:=by kernel_rfl
 m18:=by kernel_rfl
 m19:=by kernel_rfl
 c0:=by kernel_rfl
 c2:=by kernel_rfl
 c3:=by kernel_rfl
 c4:=by kernel_rfl
 c5:=by kernel_rfl
 c9:=by kernel_rfl
 c20:=by kernel_rfl
 c21:=by kernel_rfl
 c37:=by kernel_rfl
 c46:=by kernel_rfl
 c51:=by kernel_rfl
 c53:=by kernel_rfl
 c75:=by kernel_rfl
 c80:=by kernel_rfl
 c85:=by kernel_rfl
 c127:=by kernel_rfl
 c143:=by kernel_rfl
 c145:=by kernel_rfl
 c167:=by kernel_rfl
 c168:=by kernel_rfl
 c171:=by kernel_rfl
 c173:=by kernel_rfl
 c175:=by kernel_rfl
 c210:=by kernel_rfl
 c212:=by kernel_rfl
 c213:=by kernel_rfl
 c232:=by kernel_rfl
 c233:=by kernel_rfl }
open Go.RowKit in
theorem Tryz.strconv_ParseInt_10_at64_ok (s:ByteArray) (hmax:s.size≤9223372036854775806) (v:Int) (h:Lib.parseIntB 64 s.data.toList= .ok v) (w:World) :
  Calls Tryz.prog 250 #[O s,Z I 10,Z I 64] w fun e w'=>e= ah (aF #[Z I v,.nilIface])∧(w'=w∨∃ t,w'=Lib.bytesWorld w 5 t):=Any.strconv_ParseInt_10_at64_ok Tryz.laysC174 s hmax v h w
open Go.RowKit in
theorem Tryz.strconv_ParseInt_10_at64_range (s:ByteArray) (hlim:s.size≤281474976710656) (h:Lib.parseIntB 64 s.data.toList= .range) (ev:Value) (w:World) (hv:w.cell? ⟨7,0,none⟩=some ev) (hev:ev= .nilIface∨∃ te pe,ev= .iface te pe) :
  Calls Tryz.prog 250 #[O s,Z I 10,Z I 64] w fun e w'=>∃ N,e= ah (aF #[Z I (Lib.intSat 64 s.data.toList),.iface 355 (au (some ⟨N,0,none⟩))])∧w.heap.size≤N∧w'.heap[N]? =some (.cells #[O ⟨#[80,97,114,115,101,73,110,116]⟩,O s,ev] 367 (0,0))∧Below w.heap.size w w':=Any.strconv_ParseInt_10_at64_range Tryz.laysC174 s hlim h ev w hv hev
def Tryz.lays264_ren:Go.Shelf.Ren:=⟨fun|264=>108|n=>n,fun|53=>168|46=>249|n=>n,fun|n=>n⟩
theorem Tryz.lays264:Go.Proofs.Lays.n264 Tryz.prog Tryz.lays264_ren:={
 mixed:=by kernel_rfl
 f264:=Tryz.func108.trans (congrArg some zk)
 t46:=Tryz.underlying249
 a46:=Tryz.isAgg249
 z46:=Tryz.sizeOf249
 v46:=Tryz.zeroValue249
 t53:=Tryz.underlying168
 a53:=Tryz.isAgg168
 z53:=Tryz.sizeOf168
 v53:=Tryz.zeroValue168 }
open Go.RowKit Go.Lib in
theorem Tryz.bits_Mul64 (x y:Nat) (hx:x<18446744073709551616) (hy:y<18446744073709551616) (w:World) :
  Calls Tryz.prog 108 #[Z .u64 x,Z .u64 y] w fun e w'=>e= ah (aF #[Z .u64 ((x*y / 18446744073709551616:Nat):Int),Z .u64 ((x*y%18446744073709551616:Nat):Int)])∧w'=w:=Any.bits_Mul64 Tryz.lays264 x y hx hy w
def Tryz.lays105_ren:Go.Shelf.Ren:=⟨fun|105=>168|212=>240|99=>241|165=>242|166=>228|170=>243|169=>229|263=>284|264=>108|206=>285|240=>278|241=>286|276=>303|277=>305|n=>n,fun|9=>9|3=>3|4=>4|20=>20|0=>0|46=>249|109=>303|5=>5|72=>290|76=>292|51=>22|146=>336|53=>168|148=>169|70=>287|37=>288|75=>251|127=>332|164=>349|80=>224|n=>n,fun|n=>n⟩
theorem Tryz.lays105:Go.Proofs.Lays.n105 Tryz.prog Tryz.lays105_ren:={
 mixed:=by kernel_rfl
 f99:=Tryz.func241.trans (congrArg some zk)
 f105:=Tryz.func168.trans (congrArg some zk)
 f165:=Tryz.func242.trans (congrArg some zk)
 f166:=Tryz.func228.trans (congrArg some zk)
 f169:=Tryz.func229.trans (congrArg some zk)
 f170:=Tryz.func243.trans (congrArg some zk)
 f206:=Tryz.func285.trans (congrArg some zk)
 f212:=Tryz.func240.trans (congrArg some zk)
 f240:=Tryz.func278.trans (congrArg some zk)
 f241:=Tryz.func286.trans (congrArg some zk)
 f263:=Tryz.func284.trans (congrArg some zk)
 f264:=Tryz.func108.trans (congrArg some zk)
 f276:=Tryz.func303.trans (congrArg some zk)
 f277:=Tryz.func305.trans (congrArg some zk)
 t0:=Tryz.underlying0
 a0:=Tryz.isAgg0
 z0:=Tryz.sizeOf0
 v0:=Tryz.zeroValue0
 t3:=Tryz.underlying3
 a3:=Tryz.isAgg3
 z3:=Tryz.sizeOf3
 v3:=Tryz.zeroValue3
 t4:=Tryz.underlying4
 a4:=Tryz.isAgg4
 z4:=Tryz.sizeOf4
 v4:=Tryz.zeroValue4
 t5:=Tryz.underlying5
 a5:=Tryz.isAgg5
 z5:=Tryz.sizeOf5
 v5:=Tryz.zeroValue5
 t9:=Tryz.underlying9
 a9:=Tryz.isAgg9
 z9:=Tryz.sizeOf9
 v9:=Tryz.zeroValue9
 t20:=Tryz.underlying20
 a20:=Tryz.isAgg20
 z20:=Tryz.sizeOf20
 v20:=Tryz.zeroValue20
 t37:=Tryz.underlying288
 a37:=Tryz.isAgg288
 z37:=Tryz.sizeOf288
 v37:=Tryz.zeroValue288
 t46:=Tryz.underlying249
 a46:=Tryz.isAgg249
 z46:=Tryz.sizeOf249
 v46:=Tryz.zeroValue249
 t51:=Tryz.underlying22
 a51:=Tryz.isAgg22
 z51:=Tryz.sizeOf22
 v51:=Tryz.zeroValue22
 t53:=Tryz.underlying168
 a53:=Tryz.isAgg168
 z53:=Tryz.sizeOf168
 v53:=Tryz.zeroValue168
 t70:=Tryz.underlying287
 a70:=Tryz.isAgg287
 z70:=Tryz.sizeOf287
 v70:=Tryz.zeroValue287
 t72:=Tryz.underlying290
 a72:=Tryz.isAgg290
 z72:=Tryz.sizeOf290
 v72:=Tryz.zeroValue290
 t75:=Tryz.underlying251
 a75:=Tryz.isAgg251
 z75:=Tryz.sizeOf251
 v75:=Tryz.zeroValue251
 t76:=Tryz.underlying292
 a76:=Tryz.isAgg292
 z76:=Tryz.sizeOf292
 v76:=Tryz.zeroValue292
 t109:=Tryz.underlying303
 a109:=Tryz.isAgg303
 z109:=Tryz.sizeOf303
 v109:=Tryz.zeroValue303
 t127:=Tryz.underlying332
 a127:=Tryz.isAgg332
 z127:=Tryz.sizeOf332
 v127:=Tryz.zeroValue332
 t146:=Tryz.underlying336
 a146:=Tryz.isAgg336
 z146:=Tryz.sizeOf336
 v146:=Tryz.zeroValue336
 t148:=Tryz.underlying169
 a148:=Tryz.isAgg169
 z148:=Tryz.sizeOf169
 v148:=Tryz.zeroValue169
 t164:=Tryz.underlying349
 a164:=Tryz.isAgg349
 z164:=Tryz.sizeOf349
 v164:=Tryz.zeroValue349 }
theorem Tryz.Builder_Extra_105:Builder.Extra Tryz.prog Tryz.lays105_ren:={
 sizeBuilder:=by kernel_rfl
 liesBuilder:=by kernel_rfl
 t5:=Tryz.underlying5
 a5:=Tryz.isAgg5
 z5:=Tryz.sizeOf5
 v5:=Tryz.zeroValue5
 infoByte:=by kernel_rfl
 cellsByte:=by kernel_rfl
 sizeByte:=by kernel_rfl
 neB5:=by decide }
open Go.RowKit Go.Lib in
theorem Tryz.strings_Repeat (s:ByteArray) (c:Nat) (w:World) (hc:c≤9223372036854775807) (hlen:s.size*c≤140737488355328) :
  Calls Tryz.prog 168 #[O s,Z I c] w fun e w'=>e= ah (O ⟨(Lib.repeatL s.data.toList c).toArray⟩)∧Below w.heap.size w w':=Any.strings_Repeat Tryz.lays105 Tryz.Builder_Extra_105 s c w hc hlen
end Go.Proofs
