/- Lemmas for the proof. No condition. -/
import Derived.Test.YtfhappbmgghgdaaGreatDoorIB01
import Derived.Test.YtfhappbmgghgdaaGreatDoorIB02
import Derived.Test.YtfhappbmgghgdaaGreatDoorIB03
import Derived.Deep.RegionHeld
import Derived.Shelf.Bits.Mul64
import Derived.WalkMore
import Derived.ControlIn
set_option linter.unusedVariables false
set_option linter.unusedSimpArgs false
set_option maxRecDepth 100000
set_option maxHeartbeats 16000000
namespace Go.dF
open Go Go.RowKit Go.Num Go.Mem
def vC (w:World) (_T:TypeId) (v:Value) (l:List (Int × Int)):Prop :=
 ∃ a cap,v= .slice a l.length cap∧l.length≤cap∧cap≤9223372036854775807∧∀ k (_:k<l.length),∃ b off,a=some ⟨b,off,none⟩∧b<w.heap.size∧w.cell? ⟨b,off+k*2,none⟩=some (.int .i64 l[k].1)∧w.cell? ⟨b,off+k*2+1,none⟩=some (.int .i64 l[k].2)
theorem vC.later {w w':World} {T:TypeId} {v:Value} {l:List (Int × Int)} (h:vC w T v l) (hb:Below w.heap.size w w'):vC w' T v l:=by
 obtain ⟨a,cap,h1,h2,h3,h4⟩:=h
 refine ⟨a,cap,h1,h2,h3,fun k hk=>?_⟩
 obtain ⟨b,off,h5,h6,h7,h8⟩:=h4 k hk
 exact ⟨b,off,h5,Nat.lt_of_lt_of_le h6 hb.size,(hb.cell (p:=⟨b,off+k*2,none⟩) h6).trans h7,(hb.cell (p:=⟨b,off+k*2+1,none⟩) h6).trans h8⟩
theorem vC.read {w:World} {T:TypeId} {v:Value} {l:List (Int × Int)} (h:vC w T v l) :
  ∃ a cap,v= .slice a l.length cap∧l.length≤cap∧cap≤9223372036854775807∧∀ k (_:k<l.length),∃ b off,a=some ⟨b,off,none⟩∧b<w.heap.size∧w.cell? ⟨b,off+k*2,none⟩=some (.int .i64 l[k].1)∧w.cell? ⟨b,off+k*2+1,none⟩=some (.int .i64 l[k].2):=h
theorem vC.qy {w:World} {T:TypeId} {b n c:Nat} {arr:Array Value} {l:List (Int × Int)} (h:ah w b arr T) (hn:l.length=n) (hc:n≤c) (hm:c≤9223372036854775807) (k:∀ i (h:i<l.length),arr[i*2]? =some (.int .i64 l[i].1)∧arr[i*2+1]? =some (.int .i64 l[i].2)):vC w T (.slice (some ⟨b,0,none⟩) n c) l:=by
 subst hn
 refine ⟨_,_,rfl,hc,hm,fun i hi=>⟨b,0,rfl,h.lt,?_,?_⟩⟩
 ·rw [h.cell,Nat.zero_add];exact (k i hi).1
 ·rw [h.cell,Nat.zero_add];exact (k i hi).2
def okB (l:List (Int × Int)):Bool:=l.all fun b=>Go.Proofs.fM.mM b.1 b.2
theorem vC.one {w:World} {T:TypeId} {b:Nat} {lo hi:Int} (h:ah w b #[.int .i64 lo,.int .i64 hi] T):vC w T (.slice (some ⟨b,0,none⟩) 1 1) [(lo,hi)] :=
 vC.qy h rfl (Nat.le_refl _) zo fun i hi=>by
  have:i<1:=hi
  obtain rfl:i=0:=by omega
  exact ⟨rfl,rfl⟩
theorem vC.two {w:World} {T:TypeId} {b:Nat} {x1 x2 x3 x4:Int} (h:ah w b #[.int .i64 x1,.int .i64 x2,.int .i64 x3,.int .i64 x4] T):vC w T (.slice (some ⟨b,0,none⟩) 2 2) [(x1,x2),(x3,x4)] :=
 vC.qy h rfl (Nat.le_refl _) zo fun i hi=>by
  have:i<2:=hi
  obtain rfl|rfl:i=0∨i=1:=by omega
  ·exact ⟨rfl,rfl⟩
  ·exact ⟨rfl,rfl⟩
end Go.dF
namespace Go.Proofs.fM
open Go Go.RowKit Go.SW Go.Num Go.Mem Go.Proofs Go.dF
def kC (lo hi:Int):(Int × Int) × Int:=if mM lo hi then ((lo,hi),0) else ((0,0),6)
theorem jO (lo hi:Int) (w:World):Calls Tryz.prog 141 #[.int .i64 lo,.int .i64 hi] w (fun e w'=>e= .returned (iw (kC lo hi))∧Below w.heap.size w w'):=by
 have H:=zh (fun W=>tK lo hi W)
 unfold kC
 generalize mM lo hi=b at *
 unfold iw
 cases b
 all_goals
  go_enter Tryz.func141,Tryz.ntmps141
  go_wp2_with fail
  refine (H.out _).mono ?_
  rintro e w1 ⟨rfl,hb1⟩
  have hx:=ah.later (ah.new w #[.int .i64 0,.int .i64 0] 69) hb1
  have cx:=hx.cell
  have fx:=hx.free
  have lx:=hx.lt
  have hw:=Bt (show Below w.heap.size w (w.alloc (.cells #[.int .i64 0,.int .i64 0] 69)) from belA) hb1
  go_wp2_with fail
  refine bH rfl rfl boxA Tryz.underlying69 rfl zk ?_
  exact ⟨rfl,belA⟩
theorem ah8 (b c:Nat) (zs:List Int) (z0:Int) (h0:zs[0]? =some z0) (arr:Array Value) (T:TypeId) (w:World) (hx:ah w b arr T) (hc:∀ j (h:j<zs.length),arr[j]? =some (.int .i64 zs[j])) (hl:zs.length≤9223372036854775807) :
  Calls Tryz.prog 233 #[.slice (some ⟨b,0,none⟩) zs.length c] w (fun e w'=>e= .returned (.int .i64 (zs.foldl max z0))∧Below w.heap.size w w'):=by
 have hn:0<zs.length:=by
  rcases Nat.eq_zero_or_pos zs.length with h|h
  ·rw [List.getElem?_eq_none zo] at h0
   cases h0
  ·exact h
 have hz0:zs[0]=z0:=by
  rw [List.getElem?_eq_getElem hn] at h0
  exact Option.some.inj h0
 have h00:w.cell? ⟨b,0,none⟩=some (.int .i64 z0):=by
  rw [hx.cell,hc 0 hn,hz0]
 have lb:=hx.lt
 have g1:decide ((zs.length:Int)<1)=false:=by simp;omega
 have HX:=zh hx
 have HC:=zh hc
 clear hx hc
 go_enter Tryz.func233,Tryz.ntmps233
 go_wp2_with fail
 go_loopw [3,4] (fun m i wr=>∃ k:Nat,0<k∧k≤zs.length∧i= .int .i64 (k:Int)∧m= .int .i64 ((zs.take k).foldl max z0)∧Below w.heap.size w wr) (fun _ i _=>zs.length - (intOf i).toNat)
 case atStart =>
  refine ⟨1,by omega,hn,rfl,?_,Below.refl _ _⟩
  cases zs with
  | nil=>simp at hn
  | cons x t =>
   simp only [List.getElem_cons_zero] at hz0
   subst hz0
   simp
 case round =>
  obtain ⟨k,hk0,hk,rfl,rfl,hb⟩:=hrel
  by_cases hlt:k<zs.length
  ·have hcell:=((HX.out.later hb).cell k).trans (HC.out k hlt)
   have hstep:(zs.take (k+1)).foldl max z0=max ((zs.take k).foldl max z0) zs[k]:=by
    rw [List.take_succ_eq_append_getElem hlt,List.foldl_append]
    rfl
   have HS:=zh hstep
   clear hstep
   generalize zs[k]=zk at *
   generalize (zs.take k).foldl max z0=mk at *
   go_wp2_with fail
   go_roundw
   case rel=>exact ⟨k+1,by omega,by omega,by go_num,by rw [HS.out]<;>go_num,hb⟩
   case measure=>exact zM
  ·obtain rfl:k=zs.length:=by omega
   rw [List.take_length]
   go_wp2_with fail
   go_ret
   exact ⟨rfl,hb⟩
theorem Gz (b c:Nat) (zs:List Int) (z0:Int) (h0:zs[0]? =some z0) (arr:Array Value) (T:TypeId) (w:World) (hx:ah w b arr T) (hc:∀ j (h:j<zs.length),arr[j]? =some (.int .i64 zs[j])) (hl:zs.length≤9223372036854775807) :
  Calls Tryz.prog 195 #[.slice (some ⟨b,0,none⟩) zs.length c] w (fun e w'=>e= .returned (.int .i64 (zs.foldl max z0))∧Below w.heap.size w w'):=by
 have H:=zh (ah8 b c zs z0 h0 arr T w hx hc hl)
 clear h0 hx hc hl
 generalize zs.length=n at *
 generalize zs.foldl max z0=z at *
 go_enter Tryz.func195,Tryz.ntmps195
 go_wp2_with fail
 refine H.out.mono ?_
 rintro e w1 ⟨rfl,hb1⟩
 go_wp2_with fail
 go_ret
 exact ⟨rfl,hb1⟩
theorem zX (F:FuncId) (free:Array Value) (z:(Int × Int) × Int) (T:TypeId) (v:Value) (l:List (Int × Int)) (w:World) (hv:vC w T v l)
  (h1:okB l=true→∀ W,Below w.heap.size w W→Calls Tryz.prog F free W (fun e w'=>e= .returned (iw z)∧Below W.heap.size W w'))
  (hen:∀ args W,(callFunc F args).run Tryz.prog W= .ok (.enter F args) W) :
  Calls Tryz.prog 142 #[.func (.func F) #[] free,v] w (fun e w'=>e= .returned (iw (if okB l then z else ((0,0),30)))∧Below w.heap.size w w'):=by
 obtain ⟨a,cap,rfl,hc1,hc2,hread⟩:=hv.read
 have HR:=zh hread
 have H1:=zh h1
 clear h1 hv hread
 obtain ⟨z',EZ⟩:∃ y,(if okB l then z else ((0,0),30))=y:=⟨_,rfl⟩
 rw [EZ]
 have HZ:=zh EZ
 clear EZ
 obtain ⟨⟨z1,z2⟩,z3⟩:=z'
 unfold iw at *
 simp only at *
 go_enter Tryz.func142,Tryz.ntmps142
 go_wp2_with fail
 obtain ⟨wx,EW,hz,R⟩:=al1 w #[.int .i64 0,.int .i64 0] 69
 rw [EW]
 clear EW
 have HB:=zh hz
 clear hz
 obtain ⟨bx,eb⟩:∃ y,w.heap.size=y:=⟨_,rfl⟩
 rw [eb] at R ⊢
 go_wp2_with fail
 go_loopw [11] (fun iv wr=>∃ k:Nat,iv= .int .i64 (k:Int)∧k≤l.length∧Hid (∀ j (h:j<l.length),j<k→mM l[j].1 l[j].2=true)∧Below wx.heap.size wx wr) (fun iv _=>l.length - (intOf iv).toNat)
 case atStart=>exact ⟨0,rfl,by omega,zh (fun j _ h=>by omega),Below.refl _ _⟩
 case round =>
  obtain ⟨k,rfl,hk,HK,hb⟩:=hrel
  rcases Nat.lt_or_ge k l.length with hlt|hge
  ·obtain ⟨b,off,rfl,hbl,hx1,hx2⟩:=HR.out k hlt
   have hB:=Bt HB.out hb
   have hc1:=(hB.cell (p:=⟨b,off+k*2,none⟩) hbl).trans hx1
   have hc2:=(hB.cell (p:=⟨b,off+k*2+1,none⟩) hbl).trans hx2
   clear hx1 hx2
   have HV:=zh (fun W=>tK l[k].1 l[k].2 W)
   obtain ⟨bk,EK⟩:∃ y,mM l[k].1 l[k].2=y:=⟨_,rfl⟩
   have HE:=zh EK
   rw [EK] at HV
   clear EK
   generalize hlk:l[k]=lk at *
   have Zq:=zh hlk
   clear hlk
   obtain ⟨y1,y2⟩:=lk
   simp only at *
   replace R:=R.bl hb
   go_wp2_with fail
   obtain ⟨wy,EW,hz,Y⟩:=al1 wr #[.int .i64 y1,.int .i64 y2] 69
   rw [EW]
   clear EW
   refine (HV.out _).mono ?_
   rintro e w1 ⟨rfl,hb1⟩
   have hw:=Bt hb (Bt hz hb1)
   replace R:=(R.bl hz).bl hb1
   clear hc1 hc2 hz hb1 Y HV
   cases bk
   ·have hx:=R.out
    have cx:=hx.cell
    have fx:=hx.free
    have lx:=hx.lt
    go_wp2_with fail
    refine bH rfl rfl boxA Tryz.underlying69 rfl zk ?_
    have hno:okB l=false:=by
     unfold okB
     rw [List.all_eq_false]
     refine ⟨l[k],List.getElem_mem _,?_⟩
     rw [Zq.out,HE.out]
     simp
    have he:=HZ.out
    rw [hno] at he
    cases he
    have hB2:=Bt HB.out hw
    exact ⟨rfl,belA⟩
   ·go_wp2_with fail
    go_roundw
    case rel =>
     refine ⟨k+1,by go_num,by omega,zh fun j hj hjk=>?_,hw⟩
     rcases Nat.lt_or_ge j k with h|h
     ·exact HK.out j hj h
     ·obtain rfl:j=k:=by omega
      rw [Zq.out,HE.out]
    case measure=>exact zM
  ·obtain rfl:k=l.length:=by omega
   have hyes:okB l=true:=by
    unfold okB
    rw [List.all_eq_true]
    intro x hx
    obtain ⟨j,hj,rfl⟩:=List.getElem_of_mem hx
    exact HK.out j hj hj
   have he:=HZ.out
   rw [if_pos hyes] at he
   subst he
   have HH:=zh (H1.out hyes)
   simp only at HH
   clear hyes H1
   replace R:=R.bl hb
   have hB:=Bt HB.out hb
   go_wp2_with fail
   refine (HH.out _ hB).mono ?_
   rintro e w1 ⟨rfl,hb1⟩
   have hw:=Bt hB hb1
   replace R:=R.bl hb1
   have hx:=R.out
   have cx:=hx.cell
   have fx:=hx.free
   have lx:=hx.lt
   clear hb1
   go_wp2_with fail
   refine bH rfl rfl boxA Tryz.underlying69 rfl zk ?_
   exact ⟨rfl,belA⟩
def ku (a b:Int × Int):(Int × Int) × Int:=if okB [a,b] then kC (a.1+b.1) (a.2+b.2) else ((0,0),30)
theorem YE (x y z t:Int) (h0:okB [(x,y),(z,t)]=true) (b c:Nat) (w:World) (h:ah w b #[.int .i64 x,.int .i64 y] 69) (k:ah w c #[.int .i64 z,.int .i64 t] 69) :
  Calls Tryz.prog 147 #[.pointer (some ⟨b,0,none⟩),.pointer (some ⟨c,0,none⟩)] w (fun e w'=>e= .returned (iw (kC (x+z) (y+t)))∧Below w.heap.size w w'):=by
 have h0':mM x y=true∧mM z t=true:=by simpa [okB] using h0
 obtain ⟨hk1,hk2,hk3⟩: -1000000000000000000≤x∧x≤y∧y≤1000000000000000000:=by simpa [mM] using h0'.1
 obtain ⟨hk4,hk5,hk6⟩: -1000000000000000000≤z∧z≤t∧t≤1000000000000000000:=by simpa [mM] using h0'.2
 have H:=zh (fun W=>jO (x+z) (y+t) W)
 generalize kC (x+z) (y+t)=m at *
 obtain ⟨⟨m1,m2⟩,m3⟩:=m
 unfold iw at *
 simp only at *
 have cb:=h.cell
 have lb:=h.lt
 have cc:=k.cell
 have lc:=k.lt
 clear h k h0 h0'
 go_enter Tryz.func147,Tryz.ntmps147
 go_wp2_with fail
 refine (H.out _).mono ?_
 rintro e w1 ⟨rfl,hb1⟩
 have hx:=ah.later (ah.new w #[.int .i64 0,.int .i64 0] 69) hb1
 have cx:=hx.cell
 have fx:=hx.free
 have lx:=hx.lt
 have hw:=Bt (show Below w.heap.size w (w.alloc (.cells #[.int .i64 0,.int .i64 0] 69)) from belA) hb1
 go_wp2_with fail
 refine bH rfl rfl boxA Tryz.underlying69 rfl zk ?_
 exact ⟨rfl,belA⟩
theorem ai5 (x y z t:Int) (w:World):Calls Tryz.prog 88 #[.agg #[.int .i64 x,.int .i64 y],.agg #[.int .i64 z,.int .i64 t]] w (fun e w'=>e= .returned (iw (ku (x,y) (z,t)))∧Below w.heap.size w w'):=by
 have H:Hid (∀ W b c d,ah W b #[.int .i64 x,.int .i64 y] 69→ah W c #[.int .i64 z,.int .i64 t] 69→ah W d #[.int .i64 x,.int .i64 y,.int .i64 z,.int .i64 t] 69→Calls Tryz.prog 142 #[.func (.func 147) #[] #[.pointer (some ⟨b,0,none⟩),.pointer (some ⟨c,0,none⟩)],.slice (some ⟨d,0,none⟩) 2 2] W (fun e w'=>e= .returned (iw (ku (x,y) (z,t)))∧Below W.heap.size W w')):=zh fun W b c d h1 h2 h3 =>
  zX 147 #[.pointer (some ⟨b,0,none⟩),.pointer (some ⟨c,0,none⟩)] _ _ _ _ W (vC.two h3) (fun h W' hW'=>YE x y z t h b c W' (h1.later hW') (h2.later hW')) (fun args W=>by rfl)
 generalize ku (x,y) (z,t)=m at *
 obtain ⟨⟨m1,m2⟩,m3⟩:=m
 unfold iw at *
 simp only at *
 go_enter Tryz.func88,Tryz.ntmps88
 go_wp2_with fail
 obtain ⟨wx,EW,hz,X,Y,R,Z⟩:=al4 w #[.int .i64 x,.int .i64 y] 69 #[.int .i64 z,.int .i64 t] 69 #[.int .i64 0,.int .i64 0] 69 #[.int .i64 x,.int .i64 y,.int .i64 z,.int .i64 t] 69
 rw [EW]
 clear EW
 have HB:=zh hz
 clear hz
 refine (H.out _ _ _ _ X.out Y.out Z.out).mono ?_
 rintro e w1 ⟨rfl,hb1⟩
 replace R:=R.bl hb1
 replace HB:=zh (Bt HB.out hb1)
 clear hb1 H
 have hx:=R.out
 have cx:=hx.cell
 have fx:=hx.free
 have lx:=hx.lt
 have hw:=HB.out
 go_wp2_with fail
 refine bH rfl rfl boxA Tryz.underlying69 rfl zk ?_
 exact ⟨rfl,belA⟩
def Ld (n:Int) (d:Nat) (up:Bool):Int:=if up then -(-n / (d:Int)) else n / (d:Int)
def ug (p d:Nat) (b:Bool):Nat:=if 0<p%d∧b=true then p / d+1 else p / d
theorem Lj (p d:Nat) (hd:0<d): -(p:Int) / (d:Int)= -((ug p d true:Nat):Int):=by
 have h:=Nat.div_add_mod p d
 have hr:=Nat.mod_lt p hd
 unfold ug
 generalize p / d=q at *
 generalize p%d=r at *
 have e: -(p:Int)= -(r:Int)+(d:Int)* -(q:Int):=by
  rw [← h,Int.natCast_add,Int.natCast_mul,Int.mul_neg]
  omega
 rw [e,Int.add_mul_ediv_left _ _ zo]
 by_cases h0:0<r
 ·rw [if_pos ⟨h0,rfl⟩]
  have: -(r:Int) / (d:Int)= -1:=by
   refine Int.le_antisymm ?_ ?_
   ·have:=(Int.ediv_lt_iff_lt_mul (a:= -(r:Int)) (b:=0) (c:=(d:Int)) zo).2 zo
    omega
   ·rw [Int.le_ediv_iff_mul_le zo]
    omega
  rw [this]
  omega
 ·obtain rfl:r=0:=by omega
  rw [if_neg zo]
  simp
theorem ab2 (x y:Int) {d:Nat} (hd:0<d) (up:Bool):Ld (x*y) d up=gM (ug (x.natAbs*y.natAbs) d (up != (decide (x<0) != decide (y<0)))) (decide (x<0) != decide (y<0)):=by
 rw [← yI x y]
 generalize x.natAbs*y.natAbs=p
 generalize (decide (x<0) != decide (y<0))=neg
 have hf:((p:Int)) / (d:Int)=((ug p d false:Nat):Int):=by
  unfold ug
  rw [if_neg zi]
  omega
 have hn:=Lj p d hd
 unfold Ld gM
 cases neg<;>cases up<;>simp [hf,hn]
def Az (x y:Int) (d:Nat) (up:Bool):Int × Bool:=if (Ld (x*y) d up).natAbs≤1000000000000000000 then (Ld (x*y) d up,true) else (0,false)
theorem QY (x y:Int) {d:Nat} (hd:0<d) (up:Bool):Az x y d up=if ug (x.natAbs*y.natAbs) d (up != (decide (x<0) != decide (y<0)))≤1000000000000000000 then (gM (ug (x.natAbs*y.natAbs) d (up != (decide (x<0) != decide (y<0)))) (decide (x<0) != decide (y<0)),true) else (0,false):=by
 unfold Az
 rw [ab2 x y hd,fH]
def gG (N:Int) (d:Nat):Int:=(2*N+d) / (2*(d:Int))
theorem Gg (N:Int) {d:Nat} (hd:0<d):gG N d*(2*(d:Int))≤2*N+d∧2*N+d<(gG N d+1)*(2*(d:Int)):=by
 unfold gG
 refine ⟨Int.ediv_mul_le _ zo,?_⟩
 have:=Int.lt_ediv_add_one_mul_self (2*N+(d:Int)) (b:=2*(d:Int)) zo
 exact this
theorem yK {N n:Int} {d:Nat} (hd:0<d) (h1:n*(d:Int)≤N) (h2:N<(n+1)*(d:Int)):Ld N d false=n:=by
 unfold Ld
 rw [if_neg zi]
 refine Int.le_antisymm ?_ ((Int.le_ediv_iff_mul_le zo).2 h1)
 have:=(Int.ediv_lt_iff_lt_mul (c:=(d:Int)) zo).2 h2
 omega
theorem Jc {N n:Int} {d:Nat} (hd:0<d) (h1:(n - 1)*(d:Int)<N) (h2:N≤n*(d:Int)):Ld N d true=n:=by
 unfold Ld
 rw [if_pos rfl]
 have: -N / (d:Int)= -n:=by
  refine Int.le_antisymm ?_ ((Int.le_ediv_iff_mul_le zo).2 (by rw [Int.neg_mul];omega))
  have:=(Int.ediv_lt_iff_lt_mul (a:= -N) (b:= -n+1) (c:=(d:Int)) zo).2 (by
   have e:(-n+1)*(d:Int)= -((n - 1)*(d:Int)):=by rw [← Int.neg_mul];congr 1;omega
   rw [e]
   omega)
  omega
 omega
def arE (N:Int) (d:Nat):(Int × Int) × Int :=
 if -9223372036854775808≤gG N d∧gG N d<9223372036854775808 then
  (if mM (gG N d) (gG N d) then kC (gG N d+(if N<gG N d*d then -1 else 0)) (gG N d+(if gG N d*d<N then 1 else 0)) else ((0,0),6))
 else ((0,0),6)
theorem ah4 (N:Int) {d:Nat} (hd:0<d):arE N d=kC (Ld N d false) (Ld N d true):=by
 obtain ⟨h1,h2⟩:=Gg N hd
 have m1:gG N d*(2*(d:Int))=2*(gG N d*(d:Int)):=by rw [← Int.mul_assoc,Int.mul_comm (gG N d) 2,Int.mul_assoc]
 have m2:(gG N d+1)*(2*(d:Int))=2*(gG N d*(d:Int))+2*(d:Int):=by rw [Int.add_mul,m1,Int.one_mul]
 rw [m1] at h1
 rw [m2] at h2
 unfold arE
 generalize gG N d=n at *
 have e1:(n+1)*(d:Int)=n*(d:Int)+d:=by rw [Int.add_mul,Int.one_mul]
 have e2:(n - 1)*(d:Int)=n*(d:Int) - d:=by rw [Int.sub_mul,Int.one_mul]
 have e3:(n - 1+1)*(d:Int)=n*(d:Int):=by congr 1;omega
 have e4:(n+1 - 1)*(d:Int)=n*(d:Int):=by congr 1;omega
 have key:∃ lo hi,Ld N d false=lo∧Ld N d true=hi∧lo=n+(if N<n*(d:Int) then -1 else 0)∧hi=n+(if n*(d:Int)<N then 1 else 0):=by
  rcases Int.lt_trichotomy N (n*(d:Int)) with c|c|c
  ·refine ⟨n - 1,n,yK hd zo zo,Jc hd zo zo,by rw [if_pos c];omega,by rw [if_neg zo];omega⟩
  ·refine ⟨n,n,yK hd zo zo,Jc hd zo zo,by rw [if_neg zo];omega,by rw [if_neg zo];omega⟩
  ·refine ⟨n,n+1,yK hd zo zo,Jc hd zo zo,by rw [if_neg zo];omega,by rw [if_pos c]⟩
 obtain ⟨lo,hi,k1,k2,k3,k4⟩:=key
 rw [k1,k2,← k3,← k4]
 have hlo:lo=n∨lo=n - 1:=by rw [k3];split<;>omega
 have hhi:hi=n∨hi=n+1:=by rw [k4];split<;>omega
 have hor:lo=n∨hi=n:=by
  rw [k3,k4]
  by_cases c:N<n*(d:Int)
  ·right;rw [if_neg zo];omega
  ·left;rw [if_neg c];omega
 by_cases c1: -9223372036854775808≤n∧n<9223372036854775808
 ·rw [if_pos c1]
  cases hb:mM n n
  ·rw [if_neg zi]
   unfold kC
   rw [if_neg]
   intro h
   unfold mM at hb h
   simp only [Bool.and_eq_true,decide_eq_true_eq,Bool.and_eq_false_iff,decide_eq_false_iff_not] at hb h
   omega
  ·rw [if_pos rfl]
 ·rw [if_neg c1]
  unfold kC
  rw [if_neg]
  intro h
  unfold mM at h
  simp only [Bool.and_eq_true,decide_eq_true_eq] at h
  omega
end Go.Proofs.fM
namespace Go.dF
open Go Go.Num
theorem yO (q:Rat) (E:Nat):q*((E:Nat):Rat)*((q.den:Nat):Rat)=((q.num*(E:Int):Int):Rat):=by
 have h:q*((q.den:Nat):Rat)=((q.num:Int):Rat):=by
  have h1:((q.num:Int):Rat) / ((q.den:Nat):Rat)=q:=by
   have:=Rat.mkRat_eq_div q.num q.den
   rw [← this,Rat.mkRat_self]
  have h2:((q.den:Nat):Rat)≠0:=by have:=q.den_nz;exact_mod_cast this
  generalize ((q.den:Nat):Rat)=d at *
  generalize ((q.num:Int):Rat)=m at *
  grind
 rw [Rat.intCast_mul,← h,Rat.intCast_natCast]
 grind
theorem Sg (q:Rat) (n:Int) {E:Nat} (hE:0<E):q<(n:Rat) / ((E:Nat):Rat)↔q.num*(E:Int)<n*(q.den:Int):=by
 have hEq:(0:Rat)<((E:Nat):Rat):=by exact_mod_cast hE
 have hd:(0:Rat)<((q.den:Nat):Rat):=by exact_mod_cast q.den_pos
 rw [Rat.lt_div_iff hEq,← Rat.mul_lt_mul_right hd,yO,← Rat.intCast_natCast,← Rat.intCast_mul,Rat.intCast_lt_intCast]
theorem Qq (q:Rat) (n:Int) {E:Nat} (hE:0<E):(n:Rat) / ((E:Nat):Rat)<q↔n*(q.den:Int)<q.num*(E:Int):=by
 have hEq:(0:Rat)<((E:Nat):Rat):=by exact_mod_cast hE
 have hd:(0:Rat)<((q.den:Nat):Rat):=by exact_mod_cast q.den_pos
 rw [Rat.div_lt_iff hEq,← Rat.mul_lt_mul_right hd,yO,← Rat.intCast_natCast,← Rat.intCast_mul,Rat.intCast_lt_intCast]
theorem OD (q:Rat) (n:Int) {E:Nat} (hE:0<E):JN q ((n:Rat) / ((E:Nat):Rat))=if q.num*(E:Int)<n*(q.den:Int) then -1 else if n*(q.den:Int)<q.num*(E:Int) then 1 else 0:=by
 unfold JN
 simp only [Sg q n hE,Qq q n hE]
end Go.dF
namespace Go.Num
structure Cb (b Y1 Y0 un d q r:Nat):Prop where
 h1:q*Y1+r=un
 h2:(un*b+d) / (Y1*b+Y0)≤q
theorem Cb.start {b Y1 Y0 un d:Nat} (hb:0<b) (hY:0<Y1) (hd:d<b):Cb b Y1 Y0 un d (un / Y1) (un - un / Y1*Y1):=by
 have h:=Nat.div_mul_le_self un Y1
 refine ⟨by omega,?_⟩
 have e:(un*b+d) / b=un:=by
  rw [Nat.mul_comm,Nat.mul_add_div hb,Nat.div_eq_of_lt hd,Nat.add_zero]
 calc (un*b+d) / (Y1*b+Y0)≤(un*b+d) / (Y1*b):=Nat.div_le_div_left zo (Nat.mul_pos hY hb)
  _=(un*b+d) / b / Y1:=by rw [Nat.div_div_eq_div_mul,Nat.mul_comm Y1 b]
  _=un / Y1:=by rw [e]
theorem Cb.step {b Y1 Y0 un d q r:Nat} (h:Cb b Y1 Y0 un d q r) (hY:0<Y1) (hd:d<b) (hun:un<Y1*b+Y0) (c:b≤q∨b*r+d<q*Y0):Cb b Y1 Y0 un d (q - 1) (r+Y1)∧1≤q:=by
 obtain ⟨h1,h2⟩:=h
 have hb:0<b:=by omega
 have Xw:0<Y1*b+Y0:=by have:=Nat.mul_pos hY hb;omega
 have key:(un*b+d) / (Y1*b+Y0)<q:=by
  rcases c with c|c
  ·refine Nat.lt_of_lt_of_le ?_ c
   rw [Nat.div_lt_iff_lt_mul Xw]
   have:(un+1)*b≤(Y1*b+Y0)*b:=Nat.mul_le_mul_right b hun
   rw [Nat.succ_mul] at this
   rw [Nat.mul_comm b]
   omega
  ·rw [Nat.div_lt_iff_lt_mul Xw]
   have e1:un*b=q*Y1*b+b*r:=by rw [← h1,Nat.add_mul,Nat.mul_comm r b]
   rw [Nat.mul_add,← Nat.mul_assoc,e1]
   omega
 have hq:1≤q:=Nat.lt_of_le_of_lt (Nat.zero_le _) key
 refine ⟨⟨?_,Nat.le_sub_one_of_lt key⟩,hq⟩
 have:q*Y1=(q - 1)*Y1+Y1:=by
  conv=>lhs;rw [show q=q - 1+1 by omega,Nat.succ_mul]
 omega
theorem Cb.stop {b Y1 Y0 un d q r:Nat} (h:Cb b Y1 Y0 un d q r) (hY:0<Y1) (hb:0<b) (c:q*Y0≤b*r+d):q=(un*b+d) / (Y1*b+Y0):=by
 obtain ⟨h1,h2⟩:=h
 have Xw:0<Y1*b+Y0:=by have:=Nat.mul_pos hY hb;omega
 refine Nat.le_antisymm ?_ h2
 rw [Nat.le_div_iff_mul_le Xw,Nat.mul_add,← Nat.mul_assoc,← h1,Nat.add_mul,Nat.mul_comm r b]
 omega
theorem Cb.brk {b Y1 Y0 un d q r:Nat} (h:Cb b Y1 Y0 un d q r) (hY:0<Y1) (hb:0<b) (hY0:Y0<b) (hun:un<Y1*b+Y0) (c:b≤r):q=(un*b+d) / (Y1*b+Y0):=by
 refine h.stop hY hb ?_
 have hq:q<b:=by
  have h1:=h.h1
  have:q*Y1<b*Y1:=by
   rw [Nat.mul_comm b Y1]
   omega
  exact Nat.lt_of_mul_lt_mul_right this
 have a1:q*Y0≤b*b:=Nat.mul_le_mul (Nat.le_of_lt hq) (Nat.le_of_lt hY0)
 have a2:b*b≤b*r:=Nat.mul_le_mul_left b c
 omega
theorem XG {b un d1 d0 Y:Nat} (hY:0<Y):((un*b+d1) / Y)*b+((un*b+d1)%Y*b+d0) / Y=(un*b*b+d1*b+d0) / Y∧((un*b+d1)%Y*b+d0)%Y=(un*b*b+d1*b+d0)%Y:=by
 have h:=Nat.div_add_mod (un*b+d1) Y
 have e:un*b*b+d1*b+d0=Y*((un*b+d1) / Y*b)+((un*b+d1)%Y*b+d0):=by
  have:un*b*b+d1*b=(un*b+d1)*b:=by rw [Nat.add_mul]
  rw [this]
  conv=>lhs;rw [← h,Nat.add_mul]
  rw [← Nat.mul_assoc,Nat.add_assoc]
 rw [e]
 refine ⟨?_,?_⟩
 ·rw [Nat.mul_add_div hY]
 ·rw [Nat.mul_add_mod]
theorem shifted {hi lo s:Nat} (hs:s≤63) (Xa:lo<18446744073709551616) :
  (hi*2^s+lo / 2^(64 - s))*4294967296*4294967296+lo*2^s%18446744073709551616 / 4294967296*4294967296+lo*2^s%18446744073709551616%4294967296=(hi*18446744073709551616+lo)*2^s∧lo / 2^(64 - s)<2^s:=by
 have e:(18446744073709551616:Nat)=2^(64 - s)*2^s:=by
  rw [← Nat.pow_add,show 64 - s+s=64 by omega]
 have h1:lo*2^s / 18446744073709551616=lo / 2^(64 - s):=by
  conv=>lhs;rw [e]
  exact Nat.mul_div_mul_right _ _ (Nat.pow_pos zo)
 have h2:=Nat.div_add_mod (lo*2^s) 18446744073709551616
 have h3:=Nat.div_add_mod (lo*2^s%18446744073709551616) 4294967296
 refine ⟨?_,?_⟩
 ·rw [h1] at h2
  have h4:(hi*18446744073709551616+lo)*2^s=hi*2^s*18446744073709551616+lo*2^s:=by
   rw [Nat.add_mul,Nat.mul_right_comm]
  rw [h4]
  omega
 ·rw [Nat.div_lt_iff_lt_mul (Nat.pow_pos zo),Nat.mul_comm,← e]
  exact Xa
end Go.Num
namespace Go.Proofs.bits
open Go Go.RowKit Go.SW Go.Num Go.Mem Go.Proofs Go.Shelf
theorem Sb {y:Nat} (h0:0<y) (h:y<18446744073709551616):∃ s:Nat,s≤63∧(64:Int) - (Lib.bitLen y:Int)=(s:Int)∧9223372036854775808≤y*2^s∧y*2^s<18446744073709551616:=by
 obtain ⟨h1,h2,h3⟩:=Lib.bitLenAux_bounds 64 y h zo
 have h4:=Lib.bitLen_le y 64 zo h
 have e:Lib.bitLenAux 64 y=Lib.bitLen y:=rfl
 rw [e] at h1 h2 h3
 generalize Lib.bitLen y=b at *
 refine ⟨64 - b,by omega,by omega,?_,?_⟩
 ·have:2^(b - 1)*2^(64 - b)≤y*2^(64 - b):=Nat.mul_le_mul_right _ h2
  rw [← Nat.pow_add,show b - 1+(64 - b)=63 by omega] at this
  simpa using this
 ·have:y*2^(64 - b)<2^b*2^(64 - b):=Nat.mul_lt_mul_of_pos_right h3 (Nat.pow_pos zo)
  rw [← Nat.pow_add,show b+(64 - b)=64 by omega] at this
  simpa using this
def Yh (Y1 Y0 L1 L0:Nat):Prop:=2147483648≤Y1∧Y1<4294967296∧Y0<4294967296∧L1<4294967296∧L0<4294967296
theorem ag4 {Y1 Y0 U d q r:Nat} (h:Cb 4294967296 Y1 Y0 U d q r) (h1:2147483648≤Y1) (hU:U<18446744073709551616):q<18446744073709551616:=by
 have e:=h.h1
 rcases Nat.eq_zero_or_pos q with h|h
 ·omega
 ·have:=Nat.le_mul_of_pos_right q (show 0<Y1 by omega)
  omega
theorem oI {Y1 Y0 L1 L0 U d q r:Nat} (h:Cb 4294967296 Y1 Y0 U d q r) (hr:r<4294967296) (hb:Yh Y1 Y0 L1 L0) (hU:U<Y1*4294967296+Y0) (hd:d<4294967296) (c:4294967296≤q∨4294967296*r+d<q*Y0) :
  ∃ q' r':Nat,Hid (Cb 4294967296 Y1 Y0 U d q' r')∧Hid (q'<q)∧IntKind.u64.wrap ((q:Int) - 1)=(q':Int)∧IntKind.u64.wrap ((r:Int)+(Y1:Int))=(r':Int):=by
 unfold Yh at hb
 have hq:=ag4 h hb.1 zo
 obtain ⟨hd2,hq1⟩:=h.step zo hd hU c
 refine ⟨_,_,zh hd2,zh zo,?_,?_⟩
 ·rw [IntKind.wrap_u64]
  omega
 ·rw [IntKind.wrap_u64]
  omega
theorem oU {Y1 Y0 L1 L0 d q r:Nat} (hq:q<4294967296) (hr:r<4294967296) (hb:Yh Y1 Y0 L1 L0) (hd:d<4294967296) :
  ∃ T V:Nat,Hid (q*Y0=T)∧Hid (4294967296*r+d=V)∧IntKind.u64.wrap ((q:Int)*(Y0:Int))=(T:Int)∧IntKind.u64.wrap (IntKind.u64.wrap (4294967296*(r:Int))+(d:Int))=(V:Int):=by
 unfold Yh at hb
 refine ⟨_,_,zh rfl,zh rfl,?_,?_⟩
 ·have:q*Y0≤4294967295*4294967295:=Nat.mul_le_mul zo zo
  rw [← Int.natCast_mul,IntKind.wrap_u64]
  generalize q*Y0=T at *
  omega
 ·rw [IntKind.wrap_u64,IntKind.wrap_u64]
  omega
theorem Bd {U d Y q:Nat} (hY:0<Y) (hq:q=(U*4294967296+d) / Y) (hd:d<4294967296) (Xx:Y<18446744073709551616) :
  IntKind.u64.wrap (IntKind.u64.wrap (IntKind.u64.wrap ((U:Int)*4294967296)+(d:Int)) - IntKind.u64.wrap ((q:Int)*(Y:Int)))=(((U*4294967296+d)%Y:Nat):Int):=by
 have h:=Nat.div_add_mod (U*4294967296+d) Y
 have hm:=Nat.mod_lt (U*4294967296+d) hY
 rw [← hq] at h
 have e:(q:Int)*(Y:Int)=((Y*q:Nat):Int):=by rw [Int.natCast_mul,Int.mul_comm]
 rw [e]
 generalize Y*q=T at *
 generalize (U*4294967296+d)%Y=V at *
 rw [IntKind.wrap_u64,IntKind.wrap_u64,IntKind.wrap_u64,IntKind.wrap_u64]
 omega
theorem oL {U L1 L0 Y Y1 Y0 q:Nat} (hq:q=(U*4294967296+L1) / (Y1*4294967296+Y0)) (hY:Y1*4294967296+Y0=Y) (hb:Yh Y1 Y0 L1 L0) (hUY:U<Y) (Xx:Y<18446744073709551616) :
  ∃ W q0 r0:Nat,Hid (W=(U*4294967296+L1)%Y)∧Hid (W<Y)∧IntKind.u64.wrap (IntKind.u64.wrap (IntKind.u64.wrap ((U:Int)*4294967296)+(L1:Int)) - IntKind.u64.wrap ((q:Int)*(Y:Int)))=(W:Int)∧IntKind.u64.wrap ((W:Int) / (Y1:Int))=(q0:Int)∧IntKind.u64.wrap ((W:Int) - IntKind.u64.wrap ((q0:Int)*(Y1:Int)))=(r0:Int)∧Hid (r0<4294967296)∧Hid (∀ d,d<4294967296→Cb 4294967296 Y1 Y0 W d q0 r0):=by
 unfold Yh at hb
 rw [hY] at hq
 have Ze:0<Y:=by omega
 have h1:=Bd Ze hq hb.2.2.2.1 Xx
 have hm:=Nat.mod_lt (U*4294967296+L1) Ze
 obtain ⟨W,eW⟩:∃ W,(U*4294967296+L1)%Y=W:=⟨_,rfl⟩
 rw [eW] at h1 hm
 refine ⟨W,W / Y1,W - W / Y1*Y1,zh eW.symm,zh hm,h1,?_,?_,zh ?_,zh fun d hd=>Cb.start zo zo hd⟩
 ·rw [← Int.natCast_ediv,IntKind.wrap_u64]
  have:=Nat.div_le_self W Y1
  generalize W / Y1=q at *
  omega
 ·have:=Nat.div_mul_le_self W Y1
  rw [← Int.natCast_mul,IntKind.wrap_u64,IntKind.wrap_u64]
  omega
 ·have h2:=Nat.div_add_mod W Y1
  have h3:=Nat.mod_lt W (show 0<Y1 by omega)
  rw [Nat.mul_comm] at h2
  omega
theorem gU {U L1 L0 Y Y1 Y0 q q0 W:Nat} (hq:q=(U*4294967296+L1) / (Y1*4294967296+Y0)) (hq0:q0=(W*4294967296+L0) / (Y1*4294967296+Y0)) (hW:W=(U*4294967296+L1)%Y) (hb:Yh Y1 Y0 L1 L0) (hY:Y1*4294967296+Y0=Y) (Xx:Y<18446744073709551616) (hN:(U*4294967296*4294967296+L1*4294967296+L0) / Y<18446744073709551616) :
  IntKind.u64.wrap (IntKind.u64.wrap ((q:Int)*4294967296)+(q0:Int))=(((U*4294967296*4294967296+L1*4294967296+L0) / Y:Nat):Int)∧IntKind.u64.wrap (IntKind.u64.wrap (IntKind.u64.wrap ((W:Int)*4294967296)+(L0:Int)) - IntKind.u64.wrap ((q0:Int)*(Y:Int)))=(((U*4294967296*4294967296+L1*4294967296+L0)%Y:Nat):Int):=by
 unfold Yh at hb
 rw [hY] at hq hq0
 have Ze:0<Y:=by omega
 obtain ⟨h1,h2⟩:=XG (b:=4294967296) (un:=U) (d1:=L1) (d0:=L0) Ze
 rw [← hq,← hW,← hq0] at h1
 rw [← hW] at h2
 refine ⟨?_,?_⟩
 ·rw [← h1] at hN ⊢
  rw [IntKind.wrap_u64,IntKind.wrap_u64]
  omega
 ·rw [Bd Ze hq0 hb.2.2.2.2 Xx,h2]
theorem Vk (hi lo y:Nat) (hy:hi<y) (y64:y<18446744073709551616) (Xa:lo<18446744073709551616) (w:World) :
  Calls Tryz.prog 197 #[.int .u64 (hi:Int),.int .u64 (lo:Int),.int .u64 (y:Int)] w (fun e w'=>e= .returned (.tuple #[.int .u64 (((hi*18446744073709551616+lo) / y:Nat):Int),.int .u64 (((hi*18446744073709551616+lo)%y:Nat):Int)])∧Below w.heap.size w w'):=by
 have q1:¬ (y:Int)=0:=by omega
 have q2:¬ (y:Int)≤(hi:Int):=by omega
 by_cases h0:hi=0
 ·subst h0
  go_enter Tryz.func197,Tryz.ntmps197
  go_wp2_with fail
  refine aD [(.pure,0),(.pure,1),(.pure,2),(.pure,3),(.pure,4),(.pure,5),(.fin,6),(.fin,7)] zk zk zR zP ?_
  refine Wk.out ?_
  (iterate 6 (first|(apply wk_skip;(rfl);(rfl);(rfl);(intro J hJ;go_simp;(with_reducible refine hJ _ ?_);clear hJ J))|(apply wk_len;(rfl);(rfl);(rfl);(rfl);(exact zk);(intro J hJ;go_simp;(with_reducible refine hJ _ ?_);clear hJ J))|(apply wk_pure;(rfl);(rfl);(intro J hJ;go_simp;(with_reducible refine hJ _ ?_);clear hJ J))|(apply wk_load;(rfl);(rfl);(rfl);(rfl);(intro J hJ;go_simp;(with_reducible refine hJ _ ?_);clear hJ J;try go_simp))))
  refine wk_fin [_,_] rfl (fun wf hbf=>?_)
  go_wp2_with fail
  go_ret2
  have e1:IntKind.u64.wrap ((lo:Int) / (y:Int))=(((0*18446744073709551616+lo) / y:Nat):Int):=by
   rw [Nat.zero_mul,Nat.zero_add,IntKind.wrap_u64]
   have:=Nat.div_le_self lo y
   rw [← Int.natCast_ediv]
   generalize lo / y=q at *
   omega
  have e2:(lo:Int)%(y:Int)=(((0*18446744073709551616+lo)%y:Nat):Int):=by
   rw [Nat.zero_mul,Nat.zero_add]
   omega
  rw [e1,e2]
  exact ⟨rfl,((Below.refl _ w).drew.trans (hbf.mono (Nat.le_refl _)))⟩
 ·obtain ⟨s,hs,e1,e2,e3⟩:=Sb (y:=y) zo y64
  have LZ:=zh (fun W=>(Tryz.bits_LeadingZeros64 (y:Int) W zo zo))
  rw [Int.toNat_natCast,e1] at LZ
  have q3:¬ (hi:Int)=0:=by omega
  obtain ⟨hN,hlt⟩:=shifted (hi:=hi) hs Xa
  have hm:min s 64=s:=by omega
  have hp2:0<2^s:=Nat.pow_pos zo
  have hw:IntKind.u64.wrap (s:Int)=(s:Int):=by rw [IntKind.wrap_u64];omega
  have hAY:hi*2^s+2^s≤y*2^s:=by
   have:=Nat.mul_le_mul_right (2^s) hy
   rw [Nat.succ_mul] at this
   exact this
  have cY:(y:Int)*2^s=((y*2^s:Nat):Int):=by simp
  have cA:(hi:Int)*2^s=((hi*2^s:Nat):Int):=by simp
  have cL:(lo:Int)*2^s=((lo*2^s:Nat):Int):=by simp
  have cB:(lo:Int) / 2^(64 - s)=((lo / 2^(64 - s):Nat):Int):=by simp
  have hOr:bits BinOp.or IntKind.u64 ((hi*2^s:Nat):Int) ((lo / 2^(64 - s):Nat):Int)=((hi*2^s+lo / 2^(64 - s):Nat):Int):=by
   rw [bits_or_u64_nat _ _ zo (by have:=Nat.div_le_self lo (2^(64 - s));omega)]
   congr 1
   rw [Nat.mul_comm hi]
   exact (Nat.two_pow_add_eq_or_of_lt hlt hi).symm
  have hyd:∀ a:Nat,a / y=a*2^s / (y*2^s)∧a%y=a*2^s%(y*2^s) / 2^s:=fun a=>by
   have hp:0<2^s:=Nat.pow_pos zo
   refine ⟨(Nat.mul_div_mul_right _ _ hp).symm,?_⟩
   rw [Nat.mul_mod_mul_right,Nat.mul_div_cancel _ hp]
  have hNB:(hi*18446744073709551616+lo) / y<18446744073709551616:=by
   rw [Nat.div_lt_iff_lt_mul zo]
   omega
  rw [(hyd _).1,← hN] at hNB
  rw [(hyd _).1,(hyd _).2,← hN]
  have cS:∀ a:Nat,(a:Int) / 2^s=((a / 2^s:Nat):Int):=fun a=>by simp
  have Ze:2^63≤y*2^s:=e2
  obtain ⟨Y,eY⟩:∃ Y,y*2^s=Y:=⟨_,rfl⟩
  obtain ⟨A,eA⟩:∃ A,hi*2^s=A:=⟨_,rfl⟩
  obtain ⟨B,eB⟩:∃ B,lo / 2^(64 - s)=B:=⟨_,rfl⟩
  obtain ⟨L,eL⟩:∃ L,lo*2^s=L:=⟨_,rfl⟩
  rw [eY,eA] at hAY
  rw [eY] at e2 e3 cY Ze
  rw [eA] at cA
  rw [eL] at cL
  rw [eB] at cB hlt
  rw [eA,eB] at hOr
  rw [eY,eA,eB,eL]
  rw [eY,eA,eB,eL] at hNB
  obtain ⟨L',eL'⟩:∃ L',L%18446744073709551616=L':=⟨_,rfl⟩
  obtain ⟨U,eU⟩:∃ U,A+B=U:=⟨_,rfl⟩
  rw [eU] at hOr
  rw [eL',eU]
  rw [eL',eU] at hNB
  have hUY:U<Y:=by omega
  have w1:IntKind.u64.wrap (Y:Int)=(Y:Int):=by rw [IntKind.wrap_u64];omega
  have w2:IntKind.u64.wrap (A:Int)=(A:Int):=by rw [IntKind.wrap_u64];omega
  have w3:IntKind.u64.wrap (L:Int)=(L':Int):=by rw [IntKind.wrap_u64];omega
  have a1:bits BinOp.and IntKind.u64 (Y:Int) 4294967295=((Y%4294967296:Nat):Int):=Mul64.maskN Y zo
  have a2:bits BinOp.and IntKind.u64 (L':Int) 4294967295=((L'%4294967296:Nat):Int):=Mul64.maskN L' zo
  have d1:(Y:Int) / 4294967296=((Y / 4294967296:Nat):Int):=by omega
  have d2:(L':Int) / 4294967296=((L' / 4294967296:Nat):Int):=by omega
  have Xw:Y / 4294967296*4294967296+Y%4294967296=Y:=by rw [Nat.mul_comm];exact Nat.div_add_mod Y 4294967296
  obtain ⟨Y1,eY1⟩:∃ Y1,Y / 4294967296=Y1:=⟨_,rfl⟩
  obtain ⟨Y0,eY0⟩:∃ Y0,Y%4294967296=Y0:=⟨_,rfl⟩
  obtain ⟨L1,eL1⟩:∃ L1,L' / 4294967296=L1:=⟨_,rfl⟩
  obtain ⟨L0,eL0⟩:∃ L0,L'%4294967296=L0:=⟨_,rfl⟩
  have b1:2147483648≤Y1∧Y1<4294967296∧Y0<4294967296∧L1<4294967296∧L0<4294967296:=by omega
  rw [eY1] at d1 Xw
  rw [eY0] at a1 Xw
  rw [eL1] at d2
  rw [eL0] at a2
  rw [eL1,eL0]
  rw [eL1,eL0] at hNB
  obtain ⟨hst⟩:Nonempty (Cb 4294967296 Y1 Y0 U L1 (U / Y1) (U - U / Y1*Y1)):=⟨Cb.start zo zo zo⟩
  have hQ:IntKind.u64.wrap ((U:Int) / (Y1:Int))=((U / Y1:Nat):Int):=by
   rw [← Int.natCast_ediv,IntKind.wrap_u64]
   have:=Nat.div_le_self U Y1
   generalize U / Y1=q at *
   omega
  have hr1:=Nat.div_mul_le_self U Y1
  have hr2:U - U / Y1*Y1<Y1:=by
   have:=Nat.div_add_mod U Y1
   have:=Nat.mod_lt U (show 0<Y1 by omega)
   rw [Nat.mul_comm] at hr1 ⊢
   omega
  have hR:IntKind.u64.wrap ((U:Int) - IntKind.u64.wrap (((U / Y1:Nat):Int)*(Y1:Int)))=((U - U / Y1*Y1:Nat):Int):=by
   rw [← Int.natCast_mul,IntKind.wrap_u64,IntKind.wrap_u64]
   omega
  obtain ⟨q,eq⟩:∃ q,U / Y1=q:=⟨_,rfl⟩
  obtain ⟨r,er⟩:∃ r,U - U / Y1*Y1=r:=⟨_,rfl⟩
  rw [er,eq] at hst hR
  rw [eq] at hQ
  rw [er] at hr2
  have e3':=e3
  have HST:=zh hst
  have Vw:=zh hNB
  have HB1:Hid (Yh Y1 Y0 L1 L0):=zh b1
  have hz:¬ (Y1:Int)=0:=by omega
  have HUY:=zh hUY
  have xX:=zh Xw
  clear hNB y64 Xa hst hN hlt hAY hyd e1 e2 e3 hr1 er eq b1 hUY Xw eY1 eY0 eL1 eL0 eU eL' eY eA eB eL Ze
  go_enter Tryz.func197,Tryz.ntmps197
  go_wp2_with fail
  refine (LZ.out _).mono ?_
  rintro e w' ⟨rfl,rfl⟩
  go_wp2_with fail
  have RL1:Hid (r<4294967296):=zh (by have:=HB1.out.2.1;omega)
  have Qf:=zh e3'
  have ST1:=HST
  have rZ:=zh (Below.refl w'.heap.size w')
  clear hr2 HST
  go_loopw [15,16] (fun qv rv wr=>∃ q r:Nat,qv= .int .u64 (q:Int)∧rv= .int .u64 (r:Int)∧Hid (Cb 4294967296 Y1 Y0 U L1 q r)∧Hid (r<4294967296)∧Hid (Below w'.heap.size w' wr)) (fun qv _ _=>(intOf qv).toNat)
  case atStart=>exact ⟨q,r,rfl,rfl,ST1,RL1,rZ⟩
  case round =>
   clear ST1 RL1 rZ
   obtain ⟨q,r,rfl,rfl,HST,Ve,rZ⟩:=hrel
   have HT:=zh (oI HST.out Ve.out HB1.out (by rw [xX.out];exact HUY.out) HB1.out.2.2.2.1)
   rcases Nat.lt_or_ge q 4294967296 with h1|h1
   ·have g1:decide ((4294967296:Int)≤(q:Int))=false:=decide_eq_false zo
    obtain ⟨T,V,Pv,HE2,m1,m2⟩:=oU h1 Ve.out HB1.out HB1.out.2.2.2.1
    clear h1
    rcases Nat.lt_or_ge V T with h2|h2
    ·have g2:(V:Int)<(T:Int):=by omega
     obtain ⟨q',r',HD,HL,w1,w2⟩:=HT.out (.inr (by rw [Pv.out,HE2.out];exact h2))
     clear h2
     rcases Nat.lt_or_ge r' 4294967296 with h3|h3
     ·have g3:decide ((4294967296:Int)≤(r':Int))=false:=decide_eq_false zo
      have Kw:=zh h3
      clear h3
      go_wp2_with fail
      go_roundw
      case rel=>exact ⟨q',r',rfl,rfl,HD,Kw,rZ⟩
      case measure=>have:=HL.out;simp [intOf];omega
     ·have g3:decide ((4294967296:Int)≤(r':Int))=true:=decide_eq_true zo
      have HQ:=zh (HD.out.brk (Nat.lt_of_lt_of_le zo HB1.out.1) zo HB1.out.2.2.1 ((by rw [xX.out];exact HUY.out)) h3)
      clear h3
      obtain ⟨W,q0,r0,HW,Va,x1,x2,x3,Zm,wE⟩:=oL HQ.out xX.out HB1.out HUY.out Qf.out
      have Pp:=HQ
      have ST2:=zh (wE.out L0 HB1.out.2.2.2.2)
      clear HQ wE
      go_wp2_with fail
      go_loopw [18,16] (fun qv rv wr=>∃ q r:Nat,qv= .int .u64 (q:Int)∧rv= .int .u64 (r:Int)∧Hid (Cb 4294967296 Y1 Y0 W L0 q r)∧Hid (r<4294967296)∧Hid (Below w'.heap.size w' wr)) (fun qv _ _=>(intOf qv).toNat)
      case atStart=>exact ⟨q0,r0,rfl,rfl,ST2,Zm,rZ⟩
      case round =>
       clear ST2 Zm rZ
       obtain ⟨q,r,rfl,rfl,HST,Ve,rZ⟩:=hrel
       have HT:=zh (oI HST.out Ve.out HB1.out (by rw [xX.out];exact Va.out) HB1.out.2.2.2.2)
       rcases Nat.lt_or_ge q 4294967296 with h1|h1
       ·have g1:decide ((4294967296:Int)≤(q:Int))=false:=decide_eq_false zo
        obtain ⟨T,V,Pv,HE2,m1,m2⟩:=oU h1 Ve.out HB1.out HB1.out.2.2.2.2
        clear h1
        rcases Nat.lt_or_ge V T with h2|h2
        ·have g2:(V:Int)<(T:Int):=by omega
         obtain ⟨q',r',HD,HL,w1,w2⟩:=HT.out (.inr (by rw [Pv.out,HE2.out];exact h2))
         clear h2
         rcases Nat.lt_or_ge r' 4294967296 with h3|h3
         ·have g3:decide ((4294967296:Int)≤(r':Int))=false:=decide_eq_false zo
          have Kw:=zh h3
          clear h3
          go_wp2_with fail
          go_roundw
          case rel=>exact ⟨q',r',rfl,rfl,HD,Kw,rZ⟩
          case measure=>have:=HL.out;simp [intOf];omega
         ·have g3:decide ((4294967296:Int)≤(r':Int))=true:=decide_eq_true zo
          have HQ:=zh (HD.out.brk (Nat.lt_of_lt_of_le zo HB1.out.1) zo HB1.out.2.2.1 ((by rw [xX.out];exact Va.out)) h3)
          clear h3
          have HE:=zh (gU Pp.out HQ.out HW.out HB1.out xX.out Qf.out Vw.out)
          have e1:=HE.out.1
          have e2:=HE.out.2
          go_wp2_with fail
          go_ret2
          exact ⟨by simp,rZ.out⟩
        ·have g2:¬ (V:Int)<(T:Int):=by omega
         have HQ:=zh (HST.out.stop (Nat.lt_of_lt_of_le zo HB1.out.1) zo (by rw [Pv.out,HE2.out];exact h2))
         clear h2
         have HE:=zh (gU Pp.out HQ.out HW.out HB1.out xX.out Qf.out Vw.out)
         have e1:=HE.out.1
         have e2:=HE.out.2
         go_wp2_with fail
         go_ret2
         exact ⟨by simp,rZ.out⟩
       ·have g1:decide ((4294967296:Int)≤(q:Int))=true:=decide_eq_true zo
        obtain ⟨q',r',HD,HL,w1,w2⟩:=HT.out (.inl h1)
        clear h1
        rcases Nat.lt_or_ge r' 4294967296 with h3|h3
        ·have g3:decide ((4294967296:Int)≤(r':Int))=false:=decide_eq_false zo
         have Kw:=zh h3
         clear h3
         go_wp2_with fail
         go_roundw
         case rel=>exact ⟨q',r',rfl,rfl,HD,Kw,rZ⟩
         case measure=>have:=HL.out;simp [intOf];omega
        ·have g3:decide ((4294967296:Int)≤(r':Int))=true:=decide_eq_true zo
         have HQ:=zh (HD.out.brk (Nat.lt_of_lt_of_le zo HB1.out.1) zo HB1.out.2.2.1 ((by rw [xX.out];exact Va.out)) h3)
         clear h3
         have HE:=zh (gU Pp.out HQ.out HW.out HB1.out xX.out Qf.out Vw.out)
         have e1:=HE.out.1
         have e2:=HE.out.2
         go_wp2_with fail
         go_ret2
         exact ⟨by simp,rZ.out⟩
    ·have g2:¬ (V:Int)<(T:Int):=by omega
     have HQ:=zh (HST.out.stop (Nat.lt_of_lt_of_le zo HB1.out.1) zo (by rw [Pv.out,HE2.out];exact h2))
     clear h2
     obtain ⟨W,q0,r0,HW,Va,x1,x2,x3,Zm,wE⟩:=oL HQ.out xX.out HB1.out HUY.out Qf.out
     have Pp:=HQ
     have ST2:=zh (wE.out L0 HB1.out.2.2.2.2)
     clear HQ wE
     go_wp2_with fail
     go_loopw [18,16] (fun qv rv wr=>∃ q r:Nat,qv= .int .u64 (q:Int)∧rv= .int .u64 (r:Int)∧Hid (Cb 4294967296 Y1 Y0 W L0 q r)∧Hid (r<4294967296)∧Hid (Below w'.heap.size w' wr)) (fun qv _ _=>(intOf qv).toNat)
     case atStart=>exact ⟨q0,r0,rfl,rfl,ST2,Zm,rZ⟩
     case round =>
      clear ST2 Zm rZ
      obtain ⟨q,r,rfl,rfl,HST,Ve,rZ⟩:=hrel
      have HT:=zh (oI HST.out Ve.out HB1.out (by rw [xX.out];exact Va.out) HB1.out.2.2.2.2)
      rcases Nat.lt_or_ge q 4294967296 with h1|h1
      ·have g1:decide ((4294967296:Int)≤(q:Int))=false:=decide_eq_false zo
       obtain ⟨T,V,Pv,HE2,m1,m2⟩:=oU h1 Ve.out HB1.out HB1.out.2.2.2.2
       clear h1
       rcases Nat.lt_or_ge V T with h2|h2
       ·have g2:(V:Int)<(T:Int):=by omega
        obtain ⟨q',r',HD,HL,w1,w2⟩:=HT.out (.inr (by rw [Pv.out,HE2.out];exact h2))
        clear h2
        rcases Nat.lt_or_ge r' 4294967296 with h3|h3
        ·have g3:decide ((4294967296:Int)≤(r':Int))=false:=decide_eq_false zo
         have Kw:=zh h3
         clear h3
         go_wp2_with fail
         go_roundw
         case rel=>exact ⟨q',r',rfl,rfl,HD,Kw,rZ⟩
         case measure=>have:=HL.out;simp [intOf];omega
        ·have g3:decide ((4294967296:Int)≤(r':Int))=true:=decide_eq_true zo
         have HQ:=zh (HD.out.brk (Nat.lt_of_lt_of_le zo HB1.out.1) zo HB1.out.2.2.1 ((by rw [xX.out];exact Va.out)) h3)
         clear h3
         have HE:=zh (gU Pp.out HQ.out HW.out HB1.out xX.out Qf.out Vw.out)
         have e1:=HE.out.1
         have e2:=HE.out.2
         go_wp2_with fail
         go_ret2
         exact ⟨by simp,rZ.out⟩
       ·have g2:¬ (V:Int)<(T:Int):=by omega
        have HQ:=zh (HST.out.stop (Nat.lt_of_lt_of_le zo HB1.out.1) zo (by rw [Pv.out,HE2.out];exact h2))
        clear h2
        have HE:=zh (gU Pp.out HQ.out HW.out HB1.out xX.out Qf.out Vw.out)
        have e1:=HE.out.1
        have e2:=HE.out.2
        go_wp2_with fail
        go_ret2
        exact ⟨by simp,rZ.out⟩
      ·have g1:decide ((4294967296:Int)≤(q:Int))=true:=decide_eq_true zo
       obtain ⟨q',r',HD,HL,w1,w2⟩:=HT.out (.inl h1)
       clear h1
       rcases Nat.lt_or_ge r' 4294967296 with h3|h3
       ·have g3:decide ((4294967296:Int)≤(r':Int))=false:=decide_eq_false zo
        have Kw:=zh h3
        clear h3
        go_wp2_with fail
        go_roundw
        case rel=>exact ⟨q',r',rfl,rfl,HD,Kw,rZ⟩
        case measure=>have:=HL.out;simp [intOf];omega
       ·have g3:decide ((4294967296:Int)≤(r':Int))=true:=decide_eq_true zo
        have HQ:=zh (HD.out.brk (Nat.lt_of_lt_of_le zo HB1.out.1) zo HB1.out.2.2.1 ((by rw [xX.out];exact Va.out)) h3)
        clear h3
        have HE:=zh (gU Pp.out HQ.out HW.out HB1.out xX.out Qf.out Vw.out)
        have e1:=HE.out.1
        have e2:=HE.out.2
        go_wp2_with fail
        go_ret2
        exact ⟨by simp,rZ.out⟩
   ·have g1:decide ((4294967296:Int)≤(q:Int))=true:=decide_eq_true zo
    obtain ⟨q',r',HD,HL,w1,w2⟩:=HT.out (.inl h1)
    clear h1
    rcases Nat.lt_or_ge r' 4294967296 with h3|h3
    ·have g3:decide ((4294967296:Int)≤(r':Int))=false:=decide_eq_false zo
     have Kw:=zh h3
     clear h3
     go_wp2_with fail
     go_roundw
     case rel=>exact ⟨q',r',rfl,rfl,HD,Kw,rZ⟩
     case measure=>have:=HL.out;simp [intOf];omega
    ·have g3:decide ((4294967296:Int)≤(r':Int))=true:=decide_eq_true zo
     have HQ:=zh (HD.out.brk (Nat.lt_of_lt_of_le zo HB1.out.1) zo HB1.out.2.2.1 ((by rw [xX.out];exact HUY.out)) h3)
     clear h3
     obtain ⟨W,q0,r0,HW,Va,x1,x2,x3,Zm,wE⟩:=oL HQ.out xX.out HB1.out HUY.out Qf.out
     have Pp:=HQ
     have ST2:=zh (wE.out L0 HB1.out.2.2.2.2)
     clear HQ wE
     go_wp2_with fail
     go_loopw [18,16] (fun qv rv wr=>∃ q r:Nat,qv= .int .u64 (q:Int)∧rv= .int .u64 (r:Int)∧Hid (Cb 4294967296 Y1 Y0 W L0 q r)∧Hid (r<4294967296)∧Hid (Below w'.heap.size w' wr)) (fun qv _ _=>(intOf qv).toNat)
     case atStart=>exact ⟨q0,r0,rfl,rfl,ST2,Zm,rZ⟩
     case round =>
      clear ST2 Zm rZ
      obtain ⟨q,r,rfl,rfl,HST,Ve,rZ⟩:=hrel
      have HT:=zh (oI HST.out Ve.out HB1.out (by rw [xX.out];exact Va.out) HB1.out.2.2.2.2)
      rcases Nat.lt_or_ge q 4294967296 with h1|h1
      ·have g1:decide ((4294967296:Int)≤(q:Int))=false:=decide_eq_false zo
       obtain ⟨T,V,Pv,HE2,m1,m2⟩:=oU h1 Ve.out HB1.out HB1.out.2.2.2.2
       clear h1
       rcases Nat.lt_or_ge V T with h2|h2
       ·have g2:(V:Int)<(T:Int):=by omega
        obtain ⟨q',r',HD,HL,w1,w2⟩:=HT.out (.inr (by rw [Pv.out,HE2.out];exact h2))
        clear h2
        rcases Nat.lt_or_ge r' 4294967296 with h3|h3
        ·have g3:decide ((4294967296:Int)≤(r':Int))=false:=decide_eq_false zo
         have Kw:=zh h3
         clear h3
         go_wp2_with fail
         go_roundw
         case rel=>exact ⟨q',r',rfl,rfl,HD,Kw,rZ⟩
         case measure=>have:=HL.out;simp [intOf];omega
        ·have g3:decide ((4294967296:Int)≤(r':Int))=true:=decide_eq_true zo
         have HQ:=zh (HD.out.brk (Nat.lt_of_lt_of_le zo HB1.out.1) zo HB1.out.2.2.1 ((by rw [xX.out];exact Va.out)) h3)
         clear h3
         have HE:=zh (gU Pp.out HQ.out HW.out HB1.out xX.out Qf.out Vw.out)
         have e1:=HE.out.1
         have e2:=HE.out.2
         go_wp2_with fail
         go_ret2
         exact ⟨by simp,rZ.out⟩
       ·have g2:¬ (V:Int)<(T:Int):=by omega
        have HQ:=zh (HST.out.stop (Nat.lt_of_lt_of_le zo HB1.out.1) zo (by rw [Pv.out,HE2.out];exact h2))
        clear h2
        have HE:=zh (gU Pp.out HQ.out HW.out HB1.out xX.out Qf.out Vw.out)
        have e1:=HE.out.1
        have e2:=HE.out.2
        go_wp2_with fail
        go_ret2
        exact ⟨by simp,rZ.out⟩
      ·have g1:decide ((4294967296:Int)≤(q:Int))=true:=decide_eq_true zo
       obtain ⟨q',r',HD,HL,w1,w2⟩:=HT.out (.inl h1)
       clear h1
       rcases Nat.lt_or_ge r' 4294967296 with h3|h3
       ·have g3:decide ((4294967296:Int)≤(r':Int))=false:=decide_eq_false zo
        have Kw:=zh h3
        clear h3
        go_wp2_with fail
        go_roundw
        case rel=>exact ⟨q',r',rfl,rfl,HD,Kw,rZ⟩
        case measure=>have:=HL.out;simp [intOf];omega
       ·have g3:decide ((4294967296:Int)≤(r':Int))=true:=decide_eq_true zo
        have HQ:=zh (HD.out.brk (Nat.lt_of_lt_of_le zo HB1.out.1) zo HB1.out.2.2.1 ((by rw [xX.out];exact Va.out)) h3)
        clear h3
        have HE:=zh (gU Pp.out HQ.out HW.out HB1.out xX.out Qf.out Vw.out)
        have e1:=HE.out.1
        have e2:=HE.out.2
        go_wp2_with fail
        go_ret2
        exact ⟨by simp,rZ.out⟩
end Go.Proofs.bits
namespace Go
end Go
namespace Go.Proofs.fM
open Go Go.RowKit Go.SW Go.Num Go.Mem Go.Proofs Go.dF
theorem ah7 (b c:Nat) (zs:List Int) (z0:Int) (h0:zs[0]? =some z0) (arr:Array Value) (T:TypeId) (w:World) (hx:ah w b arr T) (hc:∀ j (h:j<zs.length),arr[j]? =some (.int .i64 zs[j])) (hl:zs.length≤9223372036854775807) :
  Calls Tryz.prog 232 #[.slice (some ⟨b,0,none⟩) zs.length c] w (fun e w'=>e= .returned (.int .i64 (zs.foldl min z0))∧Below w.heap.size w w'):=by
 have hn:0<zs.length:=by
  rcases Nat.eq_zero_or_pos zs.length with h|h
  ·rw [List.getElem?_eq_none zo] at h0
   cases h0
  ·exact h
 have hz0:zs[0]=z0:=by
  rw [List.getElem?_eq_getElem hn] at h0
  exact Option.some.inj h0
 have h00:w.cell? ⟨b,0,none⟩=some (.int .i64 z0):=by
  rw [hx.cell,hc 0 hn,hz0]
 have lb:=hx.lt
 have g1:decide ((zs.length:Int)<1)=false:=by simp;omega
 have HX:=zh hx
 have HC:=zh hc
 clear hx hc
 go_enter Tryz.func232,Tryz.ntmps232
 go_wp2_with fail
 go_loopw [3,4] (fun m i wr=>∃ k:Nat,0<k∧k≤zs.length∧i= .int .i64 (k:Int)∧m= .int .i64 ((zs.take k).foldl min z0)∧Below w.heap.size w wr) (fun _ i _=>zs.length - (intOf i).toNat)
 case atStart =>
  refine ⟨1,by omega,hn,rfl,?_,Below.refl _ _⟩
  cases zs with
  | nil=>simp at hn
  | cons x t =>
   simp only [List.getElem_cons_zero] at hz0
   subst hz0
   simp
 case round =>
  obtain ⟨k,hk0,hk,rfl,rfl,hb⟩:=hrel
  by_cases hlt:k<zs.length
  ·have hcell:=((HX.out.later hb).cell k).trans (HC.out k hlt)
   have hstep:(zs.take (k+1)).foldl min z0=min ((zs.take k).foldl min z0) zs[k]:=by
    rw [List.take_succ_eq_append_getElem hlt,List.foldl_append]
    rfl
   have HS:=zh hstep
   clear hstep
   generalize zs[k]=zk at *
   generalize (zs.take k).foldl min z0=mk at *
   go_wp2_with fail
   go_roundw
   case rel=>exact ⟨k+1,by omega,by omega,by go_num,by rw [HS.out]<;>go_num,hb⟩
   case measure=>exact zM
  ·obtain rfl:k=zs.length:=by omega
   rw [List.take_length]
   go_wp2_with fail
   go_ret
   exact ⟨rfl,hb⟩
theorem Sv (b c:Nat) (zs:List Int) (z0:Int) (h0:zs[0]? =some z0) (arr:Array Value) (T:TypeId) (w:World) (hx:ah w b arr T) (hc:∀ j (h:j<zs.length),arr[j]? =some (.int .i64 zs[j])) (hl:zs.length≤9223372036854775807) :
  Calls Tryz.prog 194 #[.slice (some ⟨b,0,none⟩) zs.length c] w (fun e w'=>e= .returned (.int .i64 (zs.foldl min z0))∧Below w.heap.size w w'):=by
 have H:=zh (ah7 b c zs z0 h0 arr T w hx hc hl)
 clear h0 hx hc hl
 generalize zs.length=n at *
 generalize zs.foldl min z0=z at *
 go_enter Tryz.func194,Tryz.ntmps194
 go_wp2_with fail
 refine H.out.mono ?_
 rintro e w1 ⟨rfl,hb1⟩
 go_wp2_with fail
 go_ret
 exact ⟨rfl,hb1⟩
theorem Cq (x:Int) (h1: -9223372036854775808<x) (h2:x<9223372036854775808) (w:World):Calls Tryz.prog 196 #[.int .i64 x] w (fun e w'=>e= .returned (.int .u64 (x.natAbs:Int))∧Below w.heap.size w w'):=by
 by_cases h:x<0
 ·have e:IntKind.u64.wrap (IntKind.i64.wrap (-x))=(x.natAbs:Int):=by rw [IntKind.wrap_i64,IntKind.wrap_u64];omega
  go_enter Tryz.func196,Tryz.ntmps196
  go_wp2_with fail
  go_ret
  refine ⟨?_,Below.refl _ _⟩
  show Ending.returned (.int .u64 (-x))=_
  rw [show -x=(x.natAbs:Int) by omega]
 ·have e:IntKind.u64.wrap x=(x.natAbs:Int):=by rw [IntKind.wrap_u64];omega
  go_enter Tryz.func196,Tryz.ntmps196
  go_wp2_with fail
  go_ret
  exact ⟨rfl,Below.refl _ _⟩
def uf (P d:Nat) (b neg:Bool):Int × Bool:=if ug P d b≤1000000000000000000 then (gM (ug P d b) neg,true) else (0,false)
theorem QZ {P d:Nat} {b neg:Bool} (h:1000000000000000000<P / d):uf P d b neg=(0,false):=by
 unfold uf ug
 generalize P / d=q at *
 rw [if_neg]
 split<;>omega
theorem Nv {P d:Nat} {neg:Bool} (hr:0<P%d) (h:1000000000000000000<P / d+1):uf P d true neg=(0,false):=by
 unfold uf ug
 rw [if_pos (⟨hr,rfl⟩:0<P%d∧true=true),if_neg (by generalize P / d=q at*; omega)]
theorem Wo {P d:Nat} {neg:Bool} (hr:0<P%d) (h:P / d+1≤1000000000000000000):uf P d true neg=(gM (P / d+1) neg,true):=by
 unfold uf ug
 rw [if_pos (⟨hr,rfl⟩:0<P%d∧true=true),if_pos h]
theorem Wq {P d:Nat} {b neg:Bool} (hr:P%d=0∨b=false) (h:P / d≤1000000000000000000):uf P d b neg=(gM (P / d) neg,true):=by
 have hn:¬ (0<P%d∧b=true):=by
  rintro ⟨h1,h2⟩
  rcases hr with h3|h3
  ·omega
  ·rw [h3] at h2
   cases h2
 have e:ug P d b=P / d:=if_neg hn
 unfold uf
 rw [e,if_pos h]
theorem wM (x y:Int) (d:Nat) (up:Bool) (hx:x.natAbs≤1000000000000000000) (hy:y.natAbs≤1000000000000000000) (hd:0<d) (hd2:d≤1000000000000000000) (w:World) :
  Calls Tryz.prog 146 #[.int .i64 x,.int .i64 y,.int .i64 (d:Int),.bool up] w (fun e w'=>e= .returned (.tuple #[.int .i64 (Az x y d up).1,.bool (Az x y d up).2])∧Below w.heap.size w w'):=by
 have S1:=zh (fun W=>Cq x zo zo W)
 have S2:=zh (fun W=>Cq y zo zo W)
 have S3:Hid (∀ W,Calls Tryz.prog 196 #[.int .i64 (d:Int)] W (fun e w'=>e= .returned (.int .u64 (d:Int))∧Below W.heap.size W w')):=zh fun W=>by
  have:=Cq (d:Int) zo zo W
  rw [Int.natAbs_natCast] at this
  exact this
 obtain ⟨nx,ex⟩:∃ b,decide (x<0)=b:=⟨_,rfl⟩
 obtain ⟨ny,ey⟩:∃ b,decide (y<0)=b:=⟨_,rfl⟩
 have hq:Az x y d up=uf (x.natAbs*y.natAbs) d (up != (nx != ny)) (nx != ny):=by
  rw [← ex,← ey]
  exact QY x y hd up
 obtain ⟨P,eP⟩:∃ P,x.natAbs*y.natAbs=P:=⟨_,rfl⟩
 rw [eP] at hq
 have hP:P<18446744073709551616*18446744073709551616:=by
  rw [← eP]
  calc x.natAbs*y.natAbs≤1000000000000000000*1000000000000000000:=Nat.mul_le_mul hx hy
   _<_:=by decide
 rw [hq]
 have M1:Hid (∀ W,Calls Tryz.prog 161 #[.int .u64 (x.natAbs:Int),.int .u64 (y.natAbs:Int)] W (fun e w'=>e= .returned (.tuple #[.int .u64 ((P / 18446744073709551616:Nat):Int),.int .u64 ((P%18446744073709551616:Nat):Int)])∧Below W.heap.size W w')):=zh fun W=>by
  refine (Tryz.bits_Mul64 x.natAbs y.natAbs zo zo W).mono ?_
  rintro e w' ⟨rfl,rfl⟩
  rw [eP]
  exact ⟨rfl,Below.refl _ _⟩
 have hlo:=Nat.mod_lt P (show 0<18446744073709551616 by omega)
 have Oo:=Nat.div_add_mod P 18446744073709551616
 have ed:¬ (d:Int)<0:=by omega
 have D1:Hid (P / 18446744073709551616<d→∀ W,Calls Tryz.prog 197 #[.int .u64 ((P / 18446744073709551616:Nat):Int),.int .u64 ((P%18446744073709551616:Nat):Int),.int .u64 (d:Int)] W (fun e w'=>e= .returned (.tuple #[.int .u64 ((P / d:Nat):Int),.int .u64 ((P%d:Nat):Int)])∧Below W.heap.size W w')):=zh fun hlt W=>by
  have:=bits.Vk (P / 18446744073709551616) (P%18446744073709551616) d hlt zo hlo W
  rw [show P / 18446744073709551616*18446744073709551616+P%18446744073709551616=P by rw [Nat.mul_comm];exact Oo] at this
  exact this
 have hbig:d≤P / 18446744073709551616→18446744073709551616≤P / d:=fun h=>by
  rw [Nat.le_div_iff_mul_le hd]
  have:=Nat.mul_le_mul_left 18446744073709551616 h
  omega
 obtain ⟨hi,ehi⟩:∃ a,P / 18446744073709551616=a:=⟨_,rfl⟩
 obtain ⟨lo,elo⟩:∃ a,P%18446744073709551616=a:=⟨_,rfl⟩
 rw [ehi,elo] at M1 D1
 rw [ehi] at hbig
 have HX:=zh (And.intro ex ey)
 have IG:=zh hbig
 clear hx hy hd hd2 hq eP hP hlo Oo ehi elo hbig
 obtain ⟨q,eq⟩:∃ a,P / d=a:=⟨_,rfl⟩
 obtain ⟨r,er⟩:∃ a,P%d=a:=⟨_,rfl⟩
 rw [eq,er] at D1
 rw [eq] at IG
 have Q1:Hid (∀ b neg,1000000000000000000<q→uf P d b neg=(0,false)):=zh fun b neg h=>QZ (by rw [eq];exact h)
 have Q2:Hid (∀ neg,0<r→1000000000000000000<q+1→uf P d true neg=(0,false)):=zh fun neg h1 h2=>Nv (by rw [er];exact h1) (by rw [eq];exact h2)
 have Q3:Hid (∀ neg,0<r→q+1≤1000000000000000000→uf P d true neg=(gM (q+1) neg,true)):=zh fun neg h1 h2=>by rw [Wo (by rw [er];exact h1) (by rw [eq];exact h2),eq]
 have Q4:Hid (∀ b neg,(r=0∨b=false)→q≤1000000000000000000→uf P d b neg=(gM q neg,true)):=zh fun b neg h1 h2=>by rw [Wq (by rw [er];exact h1) (by rw [eq];exact h2),eq]
 clear eq er
 generalize uf P d=QR at *
 cases nx<;>cases ny<;>cases up
 ·show Calls _ _ _ _ (fun e w'=>e= .returned (.tuple #[.int .i64 (QR false false).1,.bool (QR false false).2])∧Below w.heap.size w w')
  obtain ⟨⟨z1,z2⟩,hz⟩:∃ z,QR false false=z:=⟨_,rfl⟩
  rw [hz]
  have HZ:=zh hz
  clear hz
  simp only
  have ex:=HX.out.1
  have ey:=HX.out.2
  go_enter Tryz.func146,Tryz.ntmps146
  go_wp2_with fail
  refine (S1.out _).mono ?_
  rintro e w1 ⟨rfl,hb⟩
  have HB:=zh hb
  clear hb ex ey
  go_wp2_with fail
  refine (S2.out _).mono ?_
  rintro e w2 ⟨rfl,hb⟩
  replace HB:=zh (Bt HB.out hb)
  clear hb
  go_wp2_with fail
  refine (M1.out _).mono ?_
  rintro e w3 ⟨rfl,hb⟩
  replace HB:=zh (Bt HB.out hb)
  clear hb
  go_wp2_with fail
  refine (S3.out _).mono ?_
  rintro e w4 ⟨rfl,hb⟩
  replace HB:=zh (Bt HB.out hb)
  clear hb
  rcases Nat.lt_or_ge hi d with c1|c1
  ·have g1:decide (d≤hi)=false:=decide_eq_false zo
   have g1':¬ d≤hi:=by omega
   have D2:=zh (D1.out c1)
   clear c1
   go_wp2_with fail
   refine (S3.out _).mono ?_
   rintro e w5 ⟨rfl,hb⟩
   replace HB:=zh (Bt HB.out hb)
   clear hb
   go_wp2_with fail
   refine (D2.out _).mono ?_
   rintro e w6 ⟨rfl,hb⟩
   replace HB:=zh (Bt HB.out hb)
   clear hb g1 g1' D1 D2
   rcases Nat.lt_or_ge 1000000000000000000 q with c2|c2
   ·have g2:decide ((1000000000000000000:Int)<(q:Int))=true:=decide_eq_true zo
    obtain ⟨rfl,rfl⟩:z1=0∧z2=false:=by have h:=HZ.out;rw [Q1.out _ _ c2] at h;cases h;exact ⟨rfl,rfl⟩
    have C2:=zh c2
    clear c2 Q1 Q2 Q3 Q4
    go_wp2_with fail
    go_ret2
    exact ⟨rfl,HB.out⟩
   ·have g2:decide ((1000000000000000000:Int)<(q:Int))=false:=decide_eq_false zo
    have w1:IntKind.i64.wrap (q:Int)=(q:Int):=by rw [IntKind.wrap_i64];omega
    have w2:IntKind.i64.wrap (-(q:Int))= -(q:Int):=by rw [IntKind.wrap_i64];omega
    have w3:IntKind.u64.wrap ((q:Int)+1)=((q+1:Nat):Int):=by rw [IntKind.wrap_u64];omega
    rcases Nat.eq_zero_or_pos r with c3|c3
    ·subst c3
     obtain ⟨rfl,rfl⟩:z1=(q:Int)∧z2=true:=by have h:=HZ.out;rw [Q4.out _ _ (.inl rfl) c2] at h;cases h;exact ⟨rfl,rfl⟩
     have C2:=zh c2
     clear c2 Q1 Q2 Q3 Q4 w3
     go_wp2_with fail
     go_ret2
     exact ⟨rfl,HB.out⟩
    ·have g3:(0:Int)<(r:Int):=by omega
     obtain ⟨rfl,rfl⟩:z1=(q:Int)∧z2=true:=by have h:=HZ.out;rw [Q4.out _ _ (.inr rfl) c2] at h;cases h;exact ⟨rfl,rfl⟩
     have C2:=zh (And.intro c2 c3)
     clear c2 c3 Q1 Q2 Q3 Q4 w3
     go_wp2_with fail
     go_ret2
     exact ⟨rfl,HB.out⟩
  ·have g1:decide (d≤hi)=true:=decide_eq_true zo
   have g1':d≤hi:=c1
   obtain ⟨rfl,rfl⟩:z1=0∧z2=false:=by have h:=HZ.out;rw [Q1.out _ _ (by have:=IG.out c1;omega)] at h;cases h;exact ⟨rfl,rfl⟩
   clear c1 Q1 Q2 Q3 Q4
   go_wp2_with fail
   go_ret2
   exact ⟨rfl,HB.out⟩
 ·show Calls _ _ _ _ (fun e w'=>e= .returned (.tuple #[.int .i64 (QR true false).1,.bool (QR true false).2])∧Below w.heap.size w w')
  obtain ⟨⟨z1,z2⟩,hz⟩:∃ z,QR true false=z:=⟨_,rfl⟩
  rw [hz]
  have HZ:=zh hz
  clear hz
  simp only
  have ex:=HX.out.1
  have ey:=HX.out.2
  go_enter Tryz.func146,Tryz.ntmps146
  go_wp2_with fail
  refine (S1.out _).mono ?_
  rintro e w1 ⟨rfl,hb⟩
  have HB:=zh hb
  clear hb ex ey
  go_wp2_with fail
  refine (S2.out _).mono ?_
  rintro e w2 ⟨rfl,hb⟩
  replace HB:=zh (Bt HB.out hb)
  clear hb
  go_wp2_with fail
  refine (M1.out _).mono ?_
  rintro e w3 ⟨rfl,hb⟩
  replace HB:=zh (Bt HB.out hb)
  clear hb
  go_wp2_with fail
  refine (S3.out _).mono ?_
  rintro e w4 ⟨rfl,hb⟩
  replace HB:=zh (Bt HB.out hb)
  clear hb
  rcases Nat.lt_or_ge hi d with c1|c1
  ·have g1:decide (d≤hi)=false:=decide_eq_false zo
   have g1':¬ d≤hi:=by omega
   have D2:=zh (D1.out c1)
   clear c1
   go_wp2_with fail
   refine (S3.out _).mono ?_
   rintro e w5 ⟨rfl,hb⟩
   replace HB:=zh (Bt HB.out hb)
   clear hb
   go_wp2_with fail
   refine (D2.out _).mono ?_
   rintro e w6 ⟨rfl,hb⟩
   replace HB:=zh (Bt HB.out hb)
   clear hb g1 g1' D1 D2
   rcases Nat.lt_or_ge 1000000000000000000 q with c2|c2
   ·have g2:decide ((1000000000000000000:Int)<(q:Int))=true:=decide_eq_true zo
    obtain ⟨rfl,rfl⟩:z1=0∧z2=false:=by have h:=HZ.out;rw [Q1.out _ _ c2] at h;cases h;exact ⟨rfl,rfl⟩
    have C2:=zh c2
    clear c2 Q1 Q2 Q3 Q4
    go_wp2_with fail
    go_ret2
    exact ⟨rfl,HB.out⟩
   ·have g2:decide ((1000000000000000000:Int)<(q:Int))=false:=decide_eq_false zo
    have w1:IntKind.i64.wrap (q:Int)=(q:Int):=by rw [IntKind.wrap_i64];omega
    have w2:IntKind.i64.wrap (-(q:Int))= -(q:Int):=by rw [IntKind.wrap_i64];omega
    have w3:IntKind.u64.wrap ((q:Int)+1)=((q+1:Nat):Int):=by rw [IntKind.wrap_u64];omega
    rcases Nat.eq_zero_or_pos r with c3|c3
    ·subst c3
     obtain ⟨rfl,rfl⟩:z1=(q:Int)∧z2=true:=by have h:=HZ.out;rw [Q4.out _ _ (.inl rfl) c2] at h;cases h;exact ⟨rfl,rfl⟩
     have C2:=zh c2
     clear c2 Q1 Q2 Q3 Q4 w3
     go_wp2_with fail
     go_ret2
     exact ⟨rfl,HB.out⟩
    ·have g3:(0:Int)<(r:Int):=by omega
     obtain ⟨q',eq'⟩:∃ a,q+1=a:=⟨_,rfl⟩
     rw [eq'] at w3 Q2 Q3
     rcases Nat.lt_or_ge 1000000000000000000 q' with c4|c4
     ·have g4:decide ((1000000000000000000:Int)<(q':Int))=true:=decide_eq_true zo
      obtain ⟨rfl,rfl⟩:z1=0∧z2=false:=by have h:=HZ.out;rw [Q2.out _ c3 c4] at h;cases h;exact ⟨rfl,rfl⟩
      have C2:=zh (And.intro c2 (And.intro c3 (And.intro c4 eq')))
      clear c2 c3 c4 eq' Q1 Q2 Q3 Q4 w1 w2
      go_wp2_with fail
      go_ret2
      exact ⟨rfl,HB.out⟩
     ·have g4:decide ((1000000000000000000:Int)<(q':Int))=false:=decide_eq_false zo
      have w1':IntKind.i64.wrap (q':Int)=(q':Int):=by rw [IntKind.wrap_i64];omega
      have w2':IntKind.i64.wrap (-(q':Int))= -(q':Int):=by rw [IntKind.wrap_i64];omega
      obtain ⟨rfl,rfl⟩:z1=(q':Int)∧z2=true:=by have h:=HZ.out;rw [Q3.out _ c3 c4] at h;cases h;exact ⟨rfl,rfl⟩
      have C2:=zh (And.intro c2 (And.intro c3 (And.intro c4 eq')))
      clear c2 c3 c4 eq' Q1 Q2 Q3 Q4 w1 w2
      go_wp2_with fail
      go_ret2
      exact ⟨rfl,HB.out⟩
  ·have g1:decide (d≤hi)=true:=decide_eq_true zo
   have g1':d≤hi:=c1
   obtain ⟨rfl,rfl⟩:z1=0∧z2=false:=by have h:=HZ.out;rw [Q1.out _ _ (by have:=IG.out c1;omega)] at h;cases h;exact ⟨rfl,rfl⟩
   clear c1 Q1 Q2 Q3 Q4
   go_wp2_with fail
   go_ret2
   exact ⟨rfl,HB.out⟩
 ·show Calls _ _ _ _ (fun e w'=>e= .returned (.tuple #[.int .i64 (QR true true).1,.bool (QR true true).2])∧Below w.heap.size w w')
  obtain ⟨⟨z1,z2⟩,hz⟩:∃ z,QR true true=z:=⟨_,rfl⟩
  rw [hz]
  have HZ:=zh hz
  clear hz
  simp only
  have ex:=HX.out.1
  have ey:=HX.out.2
  go_enter Tryz.func146,Tryz.ntmps146
  go_wp2_with fail
  refine (S1.out _).mono ?_
  rintro e w1 ⟨rfl,hb⟩
  have HB:=zh hb
  clear hb ex ey
  go_wp2_with fail
  refine (S2.out _).mono ?_
  rintro e w2 ⟨rfl,hb⟩
  replace HB:=zh (Bt HB.out hb)
  clear hb
  go_wp2_with fail
  refine (M1.out _).mono ?_
  rintro e w3 ⟨rfl,hb⟩
  replace HB:=zh (Bt HB.out hb)
  clear hb
  go_wp2_with fail
  refine (S3.out _).mono ?_
  rintro e w4 ⟨rfl,hb⟩
  replace HB:=zh (Bt HB.out hb)
  clear hb
  rcases Nat.lt_or_ge hi d with c1|c1
  ·have g1:decide (d≤hi)=false:=decide_eq_false zo
   have g1':¬ d≤hi:=by omega
   have D2:=zh (D1.out c1)
   clear c1
   go_wp2_with fail
   refine (S3.out _).mono ?_
   rintro e w5 ⟨rfl,hb⟩
   replace HB:=zh (Bt HB.out hb)
   clear hb
   go_wp2_with fail
   refine (D2.out _).mono ?_
   rintro e w6 ⟨rfl,hb⟩
   replace HB:=zh (Bt HB.out hb)
   clear hb g1 g1' D1 D2
   rcases Nat.lt_or_ge 1000000000000000000 q with c2|c2
   ·have g2:decide ((1000000000000000000:Int)<(q:Int))=true:=decide_eq_true zo
    obtain ⟨rfl,rfl⟩:z1=0∧z2=false:=by have h:=HZ.out;rw [Q1.out _ _ c2] at h;cases h;exact ⟨rfl,rfl⟩
    have C2:=zh c2
    clear c2 Q1 Q2 Q3 Q4
    go_wp2_with fail
    go_ret2
    exact ⟨rfl,HB.out⟩
   ·have g2:decide ((1000000000000000000:Int)<(q:Int))=false:=decide_eq_false zo
    have w1:IntKind.i64.wrap (q:Int)=(q:Int):=by rw [IntKind.wrap_i64];omega
    have w2:IntKind.i64.wrap (-(q:Int))= -(q:Int):=by rw [IntKind.wrap_i64];omega
    have w3:IntKind.u64.wrap ((q:Int)+1)=((q+1:Nat):Int):=by rw [IntKind.wrap_u64];omega
    rcases Nat.eq_zero_or_pos r with c3|c3
    ·subst c3
     obtain ⟨rfl,rfl⟩:z1= -(q:Int)∧z2=true:=by have h:=HZ.out;rw [Q4.out _ _ (.inl rfl) c2] at h;cases h;exact ⟨rfl,rfl⟩
     have C2:=zh c2
     clear c2 Q1 Q2 Q3 Q4 w3
     go_wp2_with fail
     go_ret2
     exact ⟨rfl,HB.out⟩
    ·have g3:(0:Int)<(r:Int):=by omega
     obtain ⟨q',eq'⟩:∃ a,q+1=a:=⟨_,rfl⟩
     rw [eq'] at w3 Q2 Q3
     rcases Nat.lt_or_ge 1000000000000000000 q' with c4|c4
     ·have g4:decide ((1000000000000000000:Int)<(q':Int))=true:=decide_eq_true zo
      obtain ⟨rfl,rfl⟩:z1=0∧z2=false:=by have h:=HZ.out;rw [Q2.out _ c3 c4] at h;cases h;exact ⟨rfl,rfl⟩
      have C2:=zh (And.intro c2 (And.intro c3 (And.intro c4 eq')))
      clear c2 c3 c4 eq' Q1 Q2 Q3 Q4 w1 w2
      go_wp2_with fail
      go_ret2
      exact ⟨rfl,HB.out⟩
     ·have g4:decide ((1000000000000000000:Int)<(q':Int))=false:=decide_eq_false zo
      have w1':IntKind.i64.wrap (q':Int)=(q':Int):=by rw [IntKind.wrap_i64];omega
      have w2':IntKind.i64.wrap (-(q':Int))= -(q':Int):=by rw [IntKind.wrap_i64];omega
      obtain ⟨rfl,rfl⟩:z1= -(q':Int)∧z2=true:=by have h:=HZ.out;rw [Q3.out _ c3 c4] at h;cases h;exact ⟨rfl,rfl⟩
      have C2:=zh (And.intro c2 (And.intro c3 (And.intro c4 eq')))
      clear c2 c3 c4 eq' Q1 Q2 Q3 Q4 w1 w2
      go_wp2_with fail
      go_ret2
      exact ⟨rfl,HB.out⟩
  ·have g1:decide (d≤hi)=true:=decide_eq_true zo
   have g1':d≤hi:=c1
   obtain ⟨rfl,rfl⟩:z1=0∧z2=false:=by have h:=HZ.out;rw [Q1.out _ _ (by have:=IG.out c1;omega)] at h;cases h;exact ⟨rfl,rfl⟩
   clear c1 Q1 Q2 Q3 Q4
   go_wp2_with fail
   go_ret2
   exact ⟨rfl,HB.out⟩
 ·show Calls _ _ _ _ (fun e w'=>e= .returned (.tuple #[.int .i64 (QR false true).1,.bool (QR false true).2])∧Below w.heap.size w w')
  obtain ⟨⟨z1,z2⟩,hz⟩:∃ z,QR false true=z:=⟨_,rfl⟩
  rw [hz]
  have HZ:=zh hz
  clear hz
  simp only
  have ex:=HX.out.1
  have ey:=HX.out.2
  go_enter Tryz.func146,Tryz.ntmps146
  go_wp2_with fail
  refine (S1.out _).mono ?_
  rintro e w1 ⟨rfl,hb⟩
  have HB:=zh hb
  clear hb ex ey
  go_wp2_with fail
  refine (S2.out _).mono ?_
  rintro e w2 ⟨rfl,hb⟩
  replace HB:=zh (Bt HB.out hb)
  clear hb
  go_wp2_with fail
  refine (M1.out _).mono ?_
  rintro e w3 ⟨rfl,hb⟩
  replace HB:=zh (Bt HB.out hb)
  clear hb
  go_wp2_with fail
  refine (S3.out _).mono ?_
  rintro e w4 ⟨rfl,hb⟩
  replace HB:=zh (Bt HB.out hb)
  clear hb
  rcases Nat.lt_or_ge hi d with c1|c1
  ·have g1:decide (d≤hi)=false:=decide_eq_false zo
   have g1':¬ d≤hi:=by omega
   have D2:=zh (D1.out c1)
   clear c1
   go_wp2_with fail
   refine (S3.out _).mono ?_
   rintro e w5 ⟨rfl,hb⟩
   replace HB:=zh (Bt HB.out hb)
   clear hb
   go_wp2_with fail
   refine (D2.out _).mono ?_
   rintro e w6 ⟨rfl,hb⟩
   replace HB:=zh (Bt HB.out hb)
   clear hb g1 g1' D1 D2
   rcases Nat.lt_or_ge 1000000000000000000 q with c2|c2
   ·have g2:decide ((1000000000000000000:Int)<(q:Int))=true:=decide_eq_true zo
    obtain ⟨rfl,rfl⟩:z1=0∧z2=false:=by have h:=HZ.out;rw [Q1.out _ _ c2] at h;cases h;exact ⟨rfl,rfl⟩
    have C2:=zh c2
    clear c2 Q1 Q2 Q3 Q4
    go_wp2_with fail
    go_ret2
    exact ⟨rfl,HB.out⟩
   ·have g2:decide ((1000000000000000000:Int)<(q:Int))=false:=decide_eq_false zo
    have w1:IntKind.i64.wrap (q:Int)=(q:Int):=by rw [IntKind.wrap_i64];omega
    have w2:IntKind.i64.wrap (-(q:Int))= -(q:Int):=by rw [IntKind.wrap_i64];omega
    have w3:IntKind.u64.wrap ((q:Int)+1)=((q+1:Nat):Int):=by rw [IntKind.wrap_u64];omega
    rcases Nat.eq_zero_or_pos r with c3|c3
    ·subst c3
     obtain ⟨rfl,rfl⟩:z1= -(q:Int)∧z2=true:=by have h:=HZ.out;rw [Q4.out _ _ (.inl rfl) c2] at h;cases h;exact ⟨rfl,rfl⟩
     have C2:=zh c2
     clear c2 Q1 Q2 Q3 Q4 w3
     go_wp2_with fail
     go_ret2
     exact ⟨rfl,HB.out⟩
    ·have g3:(0:Int)<(r:Int):=by omega
     obtain ⟨rfl,rfl⟩:z1= -(q:Int)∧z2=true:=by have h:=HZ.out;rw [Q4.out _ _ (.inr rfl) c2] at h;cases h;exact ⟨rfl,rfl⟩
     have C2:=zh (And.intro c2 c3)
     clear c2 c3 Q1 Q2 Q3 Q4 w3
     go_wp2_with fail
     go_ret2
     exact ⟨rfl,HB.out⟩
  ·have g1:decide (d≤hi)=true:=decide_eq_true zo
   have g1':d≤hi:=c1
   obtain ⟨rfl,rfl⟩:z1=0∧z2=false:=by have h:=HZ.out;rw [Q1.out _ _ (by have:=IG.out c1;omega)] at h;cases h;exact ⟨rfl,rfl⟩
   clear c1 Q1 Q2 Q3 Q4
   go_wp2_with fail
   go_ret2
   exact ⟨rfl,HB.out⟩
 ·show Calls _ _ _ _ (fun e w'=>e= .returned (.tuple #[.int .i64 (QR true true).1,.bool (QR true true).2])∧Below w.heap.size w w')
  obtain ⟨⟨z1,z2⟩,hz⟩:∃ z,QR true true=z:=⟨_,rfl⟩
  rw [hz]
  have HZ:=zh hz
  clear hz
  simp only
  have ex:=HX.out.1
  have ey:=HX.out.2
  go_enter Tryz.func146,Tryz.ntmps146
  go_wp2_with fail
  refine (S1.out _).mono ?_
  rintro e w1 ⟨rfl,hb⟩
  have HB:=zh hb
  clear hb ex ey
  go_wp2_with fail
  refine (S2.out _).mono ?_
  rintro e w2 ⟨rfl,hb⟩
  replace HB:=zh (Bt HB.out hb)
  clear hb
  go_wp2_with fail
  refine (M1.out _).mono ?_
  rintro e w3 ⟨rfl,hb⟩
  replace HB:=zh (Bt HB.out hb)
  clear hb
  go_wp2_with fail
  refine (S3.out _).mono ?_
  rintro e w4 ⟨rfl,hb⟩
  replace HB:=zh (Bt HB.out hb)
  clear hb
  rcases Nat.lt_or_ge hi d with c1|c1
  ·have g1:decide (d≤hi)=false:=decide_eq_false zo
   have g1':¬ d≤hi:=by omega
   have D2:=zh (D1.out c1)
   clear c1
   go_wp2_with fail
   refine (S3.out _).mono ?_
   rintro e w5 ⟨rfl,hb⟩
   replace HB:=zh (Bt HB.out hb)
   clear hb
   go_wp2_with fail
   refine (D2.out _).mono ?_
   rintro e w6 ⟨rfl,hb⟩
   replace HB:=zh (Bt HB.out hb)
   clear hb g1 g1' D1 D2
   rcases Nat.lt_or_ge 1000000000000000000 q with c2|c2
   ·have g2:decide ((1000000000000000000:Int)<(q:Int))=true:=decide_eq_true zo
    obtain ⟨rfl,rfl⟩:z1=0∧z2=false:=by have h:=HZ.out;rw [Q1.out _ _ c2] at h;cases h;exact ⟨rfl,rfl⟩
    have C2:=zh c2
    clear c2 Q1 Q2 Q3 Q4
    go_wp2_with fail
    go_ret2
    exact ⟨rfl,HB.out⟩
   ·have g2:decide ((1000000000000000000:Int)<(q:Int))=false:=decide_eq_false zo
    have w1:IntKind.i64.wrap (q:Int)=(q:Int):=by rw [IntKind.wrap_i64];omega
    have w2:IntKind.i64.wrap (-(q:Int))= -(q:Int):=by rw [IntKind.wrap_i64];omega
    have w3:IntKind.u64.wrap ((q:Int)+1)=((q+1:Nat):Int):=by rw [IntKind.wrap_u64];omega
    rcases Nat.eq_zero_or_pos r with c3|c3
    ·subst c3
     obtain ⟨rfl,rfl⟩:z1= -(q:Int)∧z2=true:=by have h:=HZ.out;rw [Q4.out _ _ (.inl rfl) c2] at h;cases h;exact ⟨rfl,rfl⟩
     have C2:=zh c2
     clear c2 Q1 Q2 Q3 Q4 w3
     go_wp2_with fail
     go_ret2
     exact ⟨rfl,HB.out⟩
    ·have g3:(0:Int)<(r:Int):=by omega
     obtain ⟨q',eq'⟩:∃ a,q+1=a:=⟨_,rfl⟩
     rw [eq'] at w3 Q2 Q3
     rcases Nat.lt_or_ge 1000000000000000000 q' with c4|c4
     ·have g4:decide ((1000000000000000000:Int)<(q':Int))=true:=decide_eq_true zo
      obtain ⟨rfl,rfl⟩:z1=0∧z2=false:=by have h:=HZ.out;rw [Q2.out _ c3 c4] at h;cases h;exact ⟨rfl,rfl⟩
      have C2:=zh (And.intro c2 (And.intro c3 (And.intro c4 eq')))
      clear c2 c3 c4 eq' Q1 Q2 Q3 Q4 w1 w2
      go_wp2_with fail
      go_ret2
      exact ⟨rfl,HB.out⟩
     ·have g4:decide ((1000000000000000000:Int)<(q':Int))=false:=decide_eq_false zo
      have w1':IntKind.i64.wrap (q':Int)=(q':Int):=by rw [IntKind.wrap_i64];omega
      have w2':IntKind.i64.wrap (-(q':Int))= -(q':Int):=by rw [IntKind.wrap_i64];omega
      obtain ⟨rfl,rfl⟩:z1= -(q':Int)∧z2=true:=by have h:=HZ.out;rw [Q3.out _ c3 c4] at h;cases h;exact ⟨rfl,rfl⟩
      have C2:=zh (And.intro c2 (And.intro c3 (And.intro c4 eq')))
      clear c2 c3 c4 eq' Q1 Q2 Q3 Q4 w1 w2
      go_wp2_with fail
      go_ret2
      exact ⟨rfl,HB.out⟩
  ·have g1:decide (d≤hi)=true:=decide_eq_true zo
   have g1':d≤hi:=c1
   obtain ⟨rfl,rfl⟩:z1=0∧z2=false:=by have h:=HZ.out;rw [Q1.out _ _ (by have:=IG.out c1;omega)] at h;cases h;exact ⟨rfl,rfl⟩
   clear c1 Q1 Q2 Q3 Q4
   go_wp2_with fail
   go_ret2
   exact ⟨rfl,HB.out⟩
 ·show Calls _ _ _ _ (fun e w'=>e= .returned (.tuple #[.int .i64 (QR false true).1,.bool (QR false true).2])∧Below w.heap.size w w')
  obtain ⟨⟨z1,z2⟩,hz⟩:∃ z,QR false true=z:=⟨_,rfl⟩
  rw [hz]
  have HZ:=zh hz
  clear hz
  simp only
  have ex:=HX.out.1
  have ey:=HX.out.2
  go_enter Tryz.func146,Tryz.ntmps146
  go_wp2_with fail
  refine (S1.out _).mono ?_
  rintro e w1 ⟨rfl,hb⟩
  have HB:=zh hb
  clear hb ex ey
  go_wp2_with fail
  refine (S2.out _).mono ?_
  rintro e w2 ⟨rfl,hb⟩
  replace HB:=zh (Bt HB.out hb)
  clear hb
  go_wp2_with fail
  refine (M1.out _).mono ?_
  rintro e w3 ⟨rfl,hb⟩
  replace HB:=zh (Bt HB.out hb)
  clear hb
  go_wp2_with fail
  refine (S3.out _).mono ?_
  rintro e w4 ⟨rfl,hb⟩
  replace HB:=zh (Bt HB.out hb)
  clear hb
  rcases Nat.lt_or_ge hi d with c1|c1
  ·have g1:decide (d≤hi)=false:=decide_eq_false zo
   have g1':¬ d≤hi:=by omega
   have D2:=zh (D1.out c1)
   clear c1
   go_wp2_with fail
   refine (S3.out _).mono ?_
   rintro e w5 ⟨rfl,hb⟩
   replace HB:=zh (Bt HB.out hb)
   clear hb
   go_wp2_with fail
   refine (D2.out _).mono ?_
   rintro e w6 ⟨rfl,hb⟩
   replace HB:=zh (Bt HB.out hb)
   clear hb g1 g1' D1 D2
   rcases Nat.lt_or_ge 1000000000000000000 q with c2|c2
   ·have g2:decide ((1000000000000000000:Int)<(q:Int))=true:=decide_eq_true zo
    obtain ⟨rfl,rfl⟩:z1=0∧z2=false:=by have h:=HZ.out;rw [Q1.out _ _ c2] at h;cases h;exact ⟨rfl,rfl⟩
    have C2:=zh c2
    clear c2 Q1 Q2 Q3 Q4
    go_wp2_with fail
    go_ret2
    exact ⟨rfl,HB.out⟩
   ·have g2:decide ((1000000000000000000:Int)<(q:Int))=false:=decide_eq_false zo
    have w1:IntKind.i64.wrap (q:Int)=(q:Int):=by rw [IntKind.wrap_i64];omega
    have w2:IntKind.i64.wrap (-(q:Int))= -(q:Int):=by rw [IntKind.wrap_i64];omega
    have w3:IntKind.u64.wrap ((q:Int)+1)=((q+1:Nat):Int):=by rw [IntKind.wrap_u64];omega
    rcases Nat.eq_zero_or_pos r with c3|c3
    ·subst c3
     obtain ⟨rfl,rfl⟩:z1= -(q:Int)∧z2=true:=by have h:=HZ.out;rw [Q4.out _ _ (.inl rfl) c2] at h;cases h;exact ⟨rfl,rfl⟩
     have C2:=zh c2
     clear c2 Q1 Q2 Q3 Q4 w3
     go_wp2_with fail
     go_ret2
     exact ⟨rfl,HB.out⟩
    ·have g3:(0:Int)<(r:Int):=by omega
     obtain ⟨rfl,rfl⟩:z1= -(q:Int)∧z2=true:=by have h:=HZ.out;rw [Q4.out _ _ (.inr rfl) c2] at h;cases h;exact ⟨rfl,rfl⟩
     have C2:=zh (And.intro c2 c3)
     clear c2 c3 Q1 Q2 Q3 Q4 w3
     go_wp2_with fail
     go_ret2
     exact ⟨rfl,HB.out⟩
  ·have g1:decide (d≤hi)=true:=decide_eq_true zo
   have g1':d≤hi:=c1
   obtain ⟨rfl,rfl⟩:z1=0∧z2=false:=by have h:=HZ.out;rw [Q1.out _ _ (by have:=IG.out c1;omega)] at h;cases h;exact ⟨rfl,rfl⟩
   clear c1 Q1 Q2 Q3 Q4
   go_wp2_with fail
   go_ret2
   exact ⟨rfl,HB.out⟩
 ·show Calls _ _ _ _ (fun e w'=>e= .returned (.tuple #[.int .i64 (QR false false).1,.bool (QR false false).2])∧Below w.heap.size w w')
  obtain ⟨⟨z1,z2⟩,hz⟩:∃ z,QR false false=z:=⟨_,rfl⟩
  rw [hz]
  have HZ:=zh hz
  clear hz
  simp only
  have ex:=HX.out.1
  have ey:=HX.out.2
  go_enter Tryz.func146,Tryz.ntmps146
  go_wp2_with fail
  refine (S1.out _).mono ?_
  rintro e w1 ⟨rfl,hb⟩
  have HB:=zh hb
  clear hb ex ey
  go_wp2_with fail
  refine (S2.out _).mono ?_
  rintro e w2 ⟨rfl,hb⟩
  replace HB:=zh (Bt HB.out hb)
  clear hb
  go_wp2_with fail
  refine (M1.out _).mono ?_
  rintro e w3 ⟨rfl,hb⟩
  replace HB:=zh (Bt HB.out hb)
  clear hb
  go_wp2_with fail
  refine (S3.out _).mono ?_
  rintro e w4 ⟨rfl,hb⟩
  replace HB:=zh (Bt HB.out hb)
  clear hb
  rcases Nat.lt_or_ge hi d with c1|c1
  ·have g1:decide (d≤hi)=false:=decide_eq_false zo
   have g1':¬ d≤hi:=by omega
   have D2:=zh (D1.out c1)
   clear c1
   go_wp2_with fail
   refine (S3.out _).mono ?_
   rintro e w5 ⟨rfl,hb⟩
   replace HB:=zh (Bt HB.out hb)
   clear hb
   go_wp2_with fail
   refine (D2.out _).mono ?_
   rintro e w6 ⟨rfl,hb⟩
   replace HB:=zh (Bt HB.out hb)
   clear hb g1 g1' D1 D2
   rcases Nat.lt_or_ge 1000000000000000000 q with c2|c2
   ·have g2:decide ((1000000000000000000:Int)<(q:Int))=true:=decide_eq_true zo
    obtain ⟨rfl,rfl⟩:z1=0∧z2=false:=by have h:=HZ.out;rw [Q1.out _ _ c2] at h;cases h;exact ⟨rfl,rfl⟩
    have C2:=zh c2
    clear c2 Q1 Q2 Q3 Q4
    go_wp2_with fail
    go_ret2
    exact ⟨rfl,HB.out⟩
   ·have g2:decide ((1000000000000000000:Int)<(q:Int))=false:=decide_eq_false zo
    have w1:IntKind.i64.wrap (q:Int)=(q:Int):=by rw [IntKind.wrap_i64];omega
    have w2:IntKind.i64.wrap (-(q:Int))= -(q:Int):=by rw [IntKind.wrap_i64];omega
    have w3:IntKind.u64.wrap ((q:Int)+1)=((q+1:Nat):Int):=by rw [IntKind.wrap_u64];omega
    rcases Nat.eq_zero_or_pos r with c3|c3
    ·subst c3
     obtain ⟨rfl,rfl⟩:z1=(q:Int)∧z2=true:=by have h:=HZ.out;rw [Q4.out _ _ (.inl rfl) c2] at h;cases h;exact ⟨rfl,rfl⟩
     have C2:=zh c2
     clear c2 Q1 Q2 Q3 Q4 w3
     go_wp2_with fail
     go_ret2
     exact ⟨rfl,HB.out⟩
    ·have g3:(0:Int)<(r:Int):=by omega
     obtain ⟨rfl,rfl⟩:z1=(q:Int)∧z2=true:=by have h:=HZ.out;rw [Q4.out _ _ (.inr rfl) c2] at h;cases h;exact ⟨rfl,rfl⟩
     have C2:=zh (And.intro c2 c3)
     clear c2 c3 Q1 Q2 Q3 Q4 w3
     go_wp2_with fail
     go_ret2
     exact ⟨rfl,HB.out⟩
  ·have g1:decide (d≤hi)=true:=decide_eq_true zo
   have g1':d≤hi:=c1
   obtain ⟨rfl,rfl⟩:z1=0∧z2=false:=by have h:=HZ.out;rw [Q1.out _ _ (by have:=IG.out c1;omega)] at h;cases h;exact ⟨rfl,rfl⟩
   clear c1 Q1 Q2 Q3 Q4
   go_wp2_with fail
   go_ret2
   exact ⟨rfl,HB.out⟩
 ·show Calls _ _ _ _ (fun e w'=>e= .returned (.tuple #[.int .i64 (QR true false).1,.bool (QR true false).2])∧Below w.heap.size w w')
  obtain ⟨⟨z1,z2⟩,hz⟩:∃ z,QR true false=z:=⟨_,rfl⟩
  rw [hz]
  have HZ:=zh hz
  clear hz
  simp only
  have ex:=HX.out.1
  have ey:=HX.out.2
  go_enter Tryz.func146,Tryz.ntmps146
  go_wp2_with fail
  refine (S1.out _).mono ?_
  rintro e w1 ⟨rfl,hb⟩
  have HB:=zh hb
  clear hb ex ey
  go_wp2_with fail
  refine (S2.out _).mono ?_
  rintro e w2 ⟨rfl,hb⟩
  replace HB:=zh (Bt HB.out hb)
  clear hb
  go_wp2_with fail
  refine (M1.out _).mono ?_
  rintro e w3 ⟨rfl,hb⟩
  replace HB:=zh (Bt HB.out hb)
  clear hb
  go_wp2_with fail
  refine (S3.out _).mono ?_
  rintro e w4 ⟨rfl,hb⟩
  replace HB:=zh (Bt HB.out hb)
  clear hb
  rcases Nat.lt_or_ge hi d with c1|c1
  ·have g1:decide (d≤hi)=false:=decide_eq_false zo
   have g1':¬ d≤hi:=by omega
   have D2:=zh (D1.out c1)
   clear c1
   go_wp2_with fail
   refine (S3.out _).mono ?_
   rintro e w5 ⟨rfl,hb⟩
   replace HB:=zh (Bt HB.out hb)
   clear hb
   go_wp2_with fail
   refine (D2.out _).mono ?_
   rintro e w6 ⟨rfl,hb⟩
   replace HB:=zh (Bt HB.out hb)
   clear hb g1 g1' D1 D2
   rcases Nat.lt_or_ge 1000000000000000000 q with c2|c2
   ·have g2:decide ((1000000000000000000:Int)<(q:Int))=true:=decide_eq_true zo
    obtain ⟨rfl,rfl⟩:z1=0∧z2=false:=by have h:=HZ.out;rw [Q1.out _ _ c2] at h;cases h;exact ⟨rfl,rfl⟩
    have C2:=zh c2
    clear c2 Q1 Q2 Q3 Q4
    go_wp2_with fail
    go_ret2
    exact ⟨rfl,HB.out⟩
   ·have g2:decide ((1000000000000000000:Int)<(q:Int))=false:=decide_eq_false zo
    have w1:IntKind.i64.wrap (q:Int)=(q:Int):=by rw [IntKind.wrap_i64];omega
    have w2:IntKind.i64.wrap (-(q:Int))= -(q:Int):=by rw [IntKind.wrap_i64];omega
    have w3:IntKind.u64.wrap ((q:Int)+1)=((q+1:Nat):Int):=by rw [IntKind.wrap_u64];omega
    rcases Nat.eq_zero_or_pos r with c3|c3
    ·subst c3
     obtain ⟨rfl,rfl⟩:z1=(q:Int)∧z2=true:=by have h:=HZ.out;rw [Q4.out _ _ (.inl rfl) c2] at h;cases h;exact ⟨rfl,rfl⟩
     have C2:=zh c2
     clear c2 Q1 Q2 Q3 Q4 w3
     go_wp2_with fail
     go_ret2
     exact ⟨rfl,HB.out⟩
    ·have g3:(0:Int)<(r:Int):=by omega
     obtain ⟨q',eq'⟩:∃ a,q+1=a:=⟨_,rfl⟩
     rw [eq'] at w3 Q2 Q3
     rcases Nat.lt_or_ge 1000000000000000000 q' with c4|c4
     ·have g4:decide ((1000000000000000000:Int)<(q':Int))=true:=decide_eq_true zo
      obtain ⟨rfl,rfl⟩:z1=0∧z2=false:=by have h:=HZ.out;rw [Q2.out _ c3 c4] at h;cases h;exact ⟨rfl,rfl⟩
      have C2:=zh (And.intro c2 (And.intro c3 (And.intro c4 eq')))
      clear c2 c3 c4 eq' Q1 Q2 Q3 Q4 w1 w2
      go_wp2_with fail
      go_ret2
      exact ⟨rfl,HB.out⟩
     ·have g4:decide ((1000000000000000000:Int)<(q':Int))=false:=decide_eq_false zo
      have w1':IntKind.i64.wrap (q':Int)=(q':Int):=by rw [IntKind.wrap_i64];omega
      have w2':IntKind.i64.wrap (-(q':Int))= -(q':Int):=by rw [IntKind.wrap_i64];omega
      obtain ⟨rfl,rfl⟩:z1=(q':Int)∧z2=true:=by have h:=HZ.out;rw [Q3.out _ c3 c4] at h;cases h;exact ⟨rfl,rfl⟩
      have C2:=zh (And.intro c2 (And.intro c3 (And.intro c4 eq')))
      clear c2 c3 c4 eq' Q1 Q2 Q3 Q4 w1 w2
      go_wp2_with fail
      go_ret2
      exact ⟨rfl,HB.out⟩
  ·have g1:decide (d≤hi)=true:=decide_eq_true zo
   have g1':d≤hi:=c1
   obtain ⟨rfl,rfl⟩:z1=0∧z2=false:=by have h:=HZ.out;rw [Q1.out _ _ (by have:=IG.out c1;omega)] at h;cases h;exact ⟨rfl,rfl⟩
   clear c1 Q1 Q2 Q3 Q4
   go_wp2_with fail
   go_ret2
   exact ⟨rfl,HB.out⟩
theorem Mr (x y:Int) (up:Bool) (hx:x.natAbs≤1000000000000000000) (hy:y.natAbs≤1000000000000000000) (w:World) :
  Calls Tryz.prog 145 #[.int .i64 x,.int .i64 y,.bool up] w (fun e w'=>e= .returned (.tuple #[.int .i64 (Az x y 1000000000000 up).1,.bool (Az x y 1000000000000 up).2])∧Below w.heap.size w w'):=by
 have H:=zh (fun W=>wM x y 1000000000000 up hx hy zo zo W)
 generalize Az x y 1000000000000 up=z at *
 obtain ⟨z1,z2⟩:=z
 simp only at *
 go_enter Tryz.func145,Tryz.ntmps145
 go_wp2_with fail
 refine (H.out _).mono ?_
 rintro e w1 ⟨rfl,hb⟩
 go_wp2_with fail
 go_ret2
 exact ⟨rfl,hb⟩
end Go.Proofs.fM
