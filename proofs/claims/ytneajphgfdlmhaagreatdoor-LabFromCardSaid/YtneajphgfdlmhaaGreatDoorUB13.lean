/- Lemmas for the proof. No condition. -/
import Derived.Test.YtneajphgfdlmhaaGreatDoorUB12
import Derived.Laws.MakeOwn
import Derived.RangeFuncBox
set_option linter.unusedVariables false
set_option linter.unusedSimpArgs false
set_option maxRecDepth 100000
set_option maxHeartbeats 16000000
open Bool renaming and_eq_true → aG
open Go.Ending renaming returned → ah
open Go.IntKind renaming i64 → I
open Go.Value renaming agg → au, bool → ak, int → Z, pointer → aA, slice → aj
open List renaming getElem?_append_left → eO, getElem?_append_right → dY, range → dF
open Nat renaming le_refl → aC, lt_or_ge → aR, mul_le_mul → fA, mul_le_mul_right → bf, one_mul → iw, zero_add → dJ
namespace Go.Proofs.aW
open Go Go.RowKit Go.SW Go.Num Go.Mem Go.Proofs Go.gB
def Py (a b:Int × Int) (k:Nat):Int × Bool:=mh (Pb a k) (LB b k) 1000000000000 false
def Ad (a b:Int × Int) (k:Nat):Int × Bool:=mh (Pb a k) (LB b k) 1000000000000 true
def al7 (a b:Int × Int):Bool:=(dF 4).all fun k=>(Py a b k).2&&(Ad a b k).2
def Hz (a b:Int × Int):(Int × Int) × Int:=if al7 a b then gN ([(Py a b 0).1,(Py a b 1).1,(Py a b 2).1,(Py a b 3).1].foldl min (Py a b 0).1) ([(Ad a b 0).1,(Ad a b 1).1,(Ad a b 2).1,(Ad a b 3).1].foldl max (Ad a b 0).1) else ((0,0),6)
def uR (a b:Int × Int):(Int × Int) × Int:=if okB [a,b] then Hz a b else ((0,0),30)
theorem QJ (x y z t:Int) (hx:x.natAbs≤1000000000000000000) (hy:y.natAbs≤1000000000000000000) (hz:z.natAbs≤1000000000000000000) (ht:t.natAbs≤1000000000000000000) (w:World) :
  Calls Tryz.prog 100 #[au #[Z I x,Z I y],au #[Z I z,Z I t],.func (.func 101) #[] #[]] w (fun e w'=>e= ah (dZ (Hz (x,y) (z,t)))∧Below w.heap.size w w'):=by
 have hpx:∀ k,(Pb (x,y) k).natAbs≤1000000000000000000:=fun k=>by unfold Pb;split<;>assumption
 have hpy:∀ k,(LB (z,t) k).natAbs≤1000000000000000000:=fun k=>by unfold LB;split<;>assumption
 exact xk (fun x y up=>mh x y 1000000000000 up) 101 #[] x y z t w (fun k up W _=>aa1 _ _ up (hpx k) (hpy k) W) (fun args W=>by rfl)
theorem aa2 (x y z t:Int) (h0:okB [(x,y),(z,t)]=true) (b c:Nat) (w:World) (h:aB w b #[Z I x,Z I y] 40) (k:aB w c #[Z I z,Z I t] 40) :
  Calls Tryz.prog 99 #[aA (some ⟨b,0,none⟩),aA (some ⟨c,0,none⟩)] w (fun e w'=>e= ah (dZ (Hz (x,y) (z,t)))∧Below w.heap.size w w'):=by
 have h0':gM x y=true∧gM z t=true:=by simpa [okB] using h0
 obtain ⟨hk1,hk2,hk3⟩: -1000000000000000000≤x∧x≤y∧y≤1000000000000000000:=by simpa [gM] using h0'.1
 obtain ⟨hk4,hk5,hk6⟩: -1000000000000000000≤z∧z≤t∧t≤1000000000000000000:=by simpa [gM] using h0'.2
 have H:=zh (fun W=>QJ x y z t zo zo zo zo W);generalize Hz (x,y) (z,t)=m at *;obtain ⟨⟨m1,m2⟩,m3⟩:=m;unfold dZ at *;simp only at *;have cb:=h.cell;have lb:=h.lt;have cc:=k.cell;have lc:=k.lt;clear h k h0 h0' hk1 hk2 hk3 hk4 hk5 hk6;go_enter Tryz.func99,Tryz.ntmps99
 go_wp2_with fail
 refine (H.out _).mono ?_;rintro e w1 ⟨rfl,hb1⟩;have hx:=aB.later (aB.new w #[Z I 0,Z I 0] 40) hb1;have cx:=hx.cell;have fx:=hx.free;have lx:=hx.lt;have hw:=Bt (show Below w.heap.size w (w.alloc (.cells #[Z I 0,Z I 0] 40)) from aJ) hb1;go_wp2_with fail
 refine bK rfl rfl bI Tryz.underlying40 rfl zk ?_;exact ⟨rfl,aJ⟩
theorem ug (x y z t:Int) (w:World):Calls Tryz.prog 31 #[au #[Z I x,Z I y],au #[Z I z,Z I t]] w (fun e w'=>e= ah (dZ (uR (x,y) (z,t)))∧Below w.heap.size w w'):=by
 have H:Hid (∀ W b c d,aB W b #[Z I x,Z I y] 40→aB W c #[Z I z,Z I t] 40→aB W d #[Z I x,Z I y,Z I z,Z I t] 40→Calls Tryz.prog 97 #[.func (.func 99) #[] #[aA (some ⟨b,0,none⟩),aA (some ⟨c,0,none⟩)],aj (some ⟨d,0,none⟩) 2 2] W (fun e w'=>e= ah (dZ (uR (x,y) (z,t)))∧Below W.heap.size W w')):=zh fun W b c d h1 h2 h3 =>
  mY 99 #[aA (some ⟨b,0,none⟩),aA (some ⟨c,0,none⟩)] _ _ _ _ W (zG.two h3) (fun h W' hW'=>aa2 x y z t h b c W' (h1.later hW') (h2.later hW')) (fun args W=>by rfl)
 generalize uR (x,y) (z,t)=m at *;obtain ⟨⟨m1,m2⟩,m3⟩:=m;unfold dZ at *;simp only at *;go_enter Tryz.func31,Tryz.ntmps31
 go_wp2_with fail
 obtain ⟨wx,EW,hz,X,Y,R,dX⟩:=al4 w #[Z I x,Z I y] 40 #[Z I z,Z I t] 40 #[Z I 0,Z I 0] 40 #[Z I x,Z I y,Z I z,Z I t] 40;rw [EW];clear EW;have HB:=zh hz;clear hz;refine (H.out _ _ _ _ X.out Y.out dX.out).mono ?_;rintro e w1 ⟨rfl,hb1⟩;replace R:=R.bl hb1;replace HB:=zh (Bt HB.out hb1);clear hb1 H;have hx:=R.out;have cx:=hx.cell;have fx:=hx.free;have lx:=hx.lt;have hw:=HB.out;go_wp2_with fail
 refine bK rfl rfl bI Tryz.underlying40 rfl zk ?_;exact ⟨rfl,aJ⟩
def jO (N:Int) (d:Nat):Int:=(2*N+d) / (2*(d:Int))
theorem JW (N:Int) {d:Nat} (hd:0<d):jO N d*(2*(d:Int))≤2*N+d∧2*N+d<(jO N d+1)*(2*(d:Int)):=by
 unfold jO;refine ⟨Int.ediv_mul_le _ zo,?_⟩;have:=Int.lt_ediv_add_one_mul_self (2*N+(d:Int)) (b:=2*(d:Int)) zo;exact this
theorem Cz {N n:Int} {d:Nat} (hd:0<d) (h1:n*(d:Int)≤N) (h2:N<(n+1)*(d:Int)):qK N d false=n:=by
 unfold qK;rw [if_neg zi];refine Int.le_antisymm ?_ ((Int.le_ediv_iff_mul_le zo).2 h1);have:=(Int.ediv_lt_iff_lt_mul (c:=(d:Int)) zo).2 h2;omega
theorem Mw {N n:Int} {d:Nat} (hd:0<d) (h1:(n - 1)*(d:Int)<N) (h2:N≤n*(d:Int)):qK N d true=n:=by
 unfold qK;rw [if_pos rfl]
 have: -N / (d:Int)= -n:=by
  refine Int.le_antisymm ?_ ((Int.le_ediv_iff_mul_le zo).2 (by rw [Int.neg_mul];omega))
  have:=(Int.ediv_lt_iff_lt_mul (a:= -N) (b:= -n+1) (c:=(d:Int)) zo).2 (by
   have e:(-n+1)*(d:Int)= -((n - 1)*(d:Int)):=by rw [← Int.neg_mul];congr 1;omega
   rw [e];omega)
  omega
 omega
def arE (N:Int) (d:Nat):(Int × Int) × Int :=
 if -9223372036854775808≤jO N d∧jO N d<9223372036854775808 then
  (if gM (jO N d) (jO N d) then gN (jO N d+(if N<jO N d*d then -1 else 0)) (jO N d+(if jO N d*d<N then 1 else 0)) else ((0,0),6))
 else ((0,0),6)
theorem ap2 (N:Int) {d:Nat} (hd:0<d):arE N d=gN (qK N d false) (qK N d true):=by
 obtain ⟨h1,h2⟩:=JW N hd;have m1:jO N d*(2*(d:Int))=2*(jO N d*(d:Int)):=by rw [← Int.mul_assoc,Int.mul_comm (jO N d) 2,Int.mul_assoc]
 have m2:(jO N d+1)*(2*(d:Int))=2*(jO N d*(d:Int))+2*(d:Int):=by rw [Int.add_mul,m1,Int.one_mul]
 rw [m1] at h1;rw [m2] at h2;unfold arE;generalize jO N d=n at *;have e1:(n+1)*(d:Int)=n*(d:Int)+d:=by rw [Int.add_mul,Int.one_mul]
 have e2:(n - 1)*(d:Int)=n*(d:Int) - d:=by rw [Int.sub_mul,Int.one_mul]
 have e3:(n - 1+1)*(d:Int)=n*(d:Int):=by congr 1;omega
 have e4:(n+1 - 1)*(d:Int)=n*(d:Int):=by congr 1;omega
 have key:∃ lo hi,qK N d false=lo∧qK N d true=hi∧lo=n+(if N<n*(d:Int) then -1 else 0)∧hi=n+(if n*(d:Int)<N then 1 else 0):=by
  rcases Int.lt_trichotomy N (n*(d:Int)) with c|c|c
  ·refine ⟨n - 1,n,Cz hd zo zo,Mw hd zo zo,by rw [if_pos c];omega,by rw [if_neg zo];omega⟩
  ·refine ⟨n,n,Cz hd zo zo,Mw hd zo zo,by rw [if_neg zo];omega,by rw [if_neg zo];omega⟩
  ·refine ⟨n,n+1,Cz hd zo zo,Mw hd zo zo,by rw [if_neg zo];omega,by rw [if_pos c]⟩
 obtain ⟨lo,hi,k1,k2,k3,k4⟩:=key;rw [k1,k2,← k3,← k4];have hlo:lo=n∨lo=n - 1:=by rw [k3];split<;>omega
 have hhi:hi=n∨hi=n+1:=by rw [k4];split<;>omega
 have hor:lo=n∨hi=n:=by
  rw [k3,k4]
  by_cases c:N<n*(d:Int)
  ·right;rw [if_neg zo];omega
  ·left;rw [if_neg c];omega
 by_cases c1: -9223372036854775808≤n∧n<9223372036854775808
 ·rw [if_pos c1];cases hb:gM n n
  ·rw [if_neg zi];unfold gN;rw [if_neg];intro h;unfold gM at hb h;simp only [aG,decide_eq_true_eq,Bool.and_eq_false_iff,decide_eq_false_iff_not] at hb h;omega
  ·rw [if_pos rfl]
 ·rw [if_neg c1];unfold gN;rw [if_neg];intro h;unfold gM at h;simp only [aG,decide_eq_true_eq] at h;omega
end Go.Proofs.aW
namespace Go.gB
open Go Go.Num
theorem CV (q:Rat) (E:Nat):q*((E:Nat):Rat)*((q.den:Nat):Rat)=((q.num*(E:Int):Int):Rat):=by
 have h:q*((q.den:Nat):Rat)=((q.num:Int):Rat):=by
  have h1:((q.num:Int):Rat) / ((q.den:Nat):Rat)=q:=by
   have:=Rat.mkRat_eq_div q.num q.den;rw [← this,Rat.mkRat_self]
  have h2:((q.den:Nat):Rat)≠0:=by have:=q.den_nz;exact_mod_cast this
  generalize ((q.den:Nat):Rat)=d at *;generalize ((q.num:Int):Rat)=m at *
  grind
 rw [Rat.intCast_mul,← h,Rat.intCast_natCast]
 grind
theorem VL (q:Rat) (n:Int) {E:Nat} (hE:0<E):q<(n:Rat) / ((E:Nat):Rat)↔q.num*(E:Int)<n*(q.den:Int):=by
 have hEq:(0:Rat)<((E:Nat):Rat):=by exact_mod_cast hE
 have hd:(0:Rat)<((q.den:Nat):Rat):=by exact_mod_cast q.den_pos
 rw [Rat.lt_div_iff hEq,← Rat.mul_lt_mul_right hd,CV,← Rat.intCast_natCast,← Rat.intCast_mul,Rat.intCast_lt_intCast]
theorem UM (q:Rat) (n:Int) {E:Nat} (hE:0<E):(n:Rat) / ((E:Nat):Rat)<q↔n*(q.den:Int)<q.num*(E:Int):=by
 have hEq:(0:Rat)<((E:Nat):Rat):=by exact_mod_cast hE
 have hd:(0:Rat)<((q.den:Nat):Rat):=by exact_mod_cast q.den_pos
 rw [Rat.div_lt_iff hEq,← Rat.mul_lt_mul_right hd,CV,← Rat.intCast_natCast,← Rat.intCast_mul,Rat.intCast_lt_intCast]
theorem SE (q:Rat) (n:Int) {E:Nat} (hE:0<E):qL q ((n:Rat) / ((E:Nat):Rat))=if q.num*(E:Int)<n*(q.den:Int) then -1 else if n*(q.den:Int)<q.num*(E:Int) then 1 else 0:=by
 unfold qL;simp only [VL q n hE,UM q n hE]
end Go.gB
namespace Go.Proofs.aW
open Go Go.RowKit Go.SW Go.Num Go.Mem Go.Proofs Go.gB
def kH (a b:Int × Int):(Int × Int) × Int:=if okB [a,b] then gN (a.1+b.1) (a.2+b.2) else ((0,0),30)
theorem ab3 (x y z t:Int) (h0:okB [(x,y),(z,t)]=true) (b c:Nat) (w:World) (h:aB w b #[Z I x,Z I y] 40) (k:aB w c #[Z I z,Z I t] 40) :
  Calls Tryz.prog 98 #[aA (some ⟨b,0,none⟩),aA (some ⟨c,0,none⟩)] w (fun e w'=>e= ah (dZ (gN (x+z) (y+t)))∧Below w.heap.size w w'):=by
 have h0':gM x y=true∧gM z t=true:=by simpa [okB] using h0
 obtain ⟨hk1,hk2,hk3⟩: -1000000000000000000≤x∧x≤y∧y≤1000000000000000000:=by simpa [gM] using h0'.1
 obtain ⟨hk4,hk5,hk6⟩: -1000000000000000000≤z∧z≤t∧t≤1000000000000000000:=by simpa [gM] using h0'.2
 have H:=zh (fun W=>mo (x+z) (y+t) W);generalize gN (x+z) (y+t)=m at *;obtain ⟨⟨m1,m2⟩,m3⟩:=m;unfold dZ at *;simp only at *;have cb:=h.cell;have lb:=h.lt;have cc:=k.cell;have lc:=k.lt;clear h k h0 h0';go_enter Tryz.func98,Tryz.ntmps98
 go_wp2_with fail
 refine (H.out _).mono ?_;rintro e w1 ⟨rfl,hb1⟩;have hx:=aB.later (aB.new w #[Z I 0,Z I 0] 40) hb1;have cx:=hx.cell;have fx:=hx.free;have lx:=hx.lt;have hw:=Bt (show Below w.heap.size w (w.alloc (.cells #[Z I 0,Z I 0] 40)) from aJ) hb1;go_wp2_with fail
 refine bK rfl rfl bI Tryz.underlying40 rfl zk ?_;exact ⟨rfl,aJ⟩
theorem uj (x y z t:Int) (w:World):Calls Tryz.prog 30 #[au #[Z I x,Z I y],au #[Z I z,Z I t]] w (fun e w'=>e= ah (dZ (kH (x,y) (z,t)))∧Below w.heap.size w w'):=by
 have H:Hid (∀ W b c d,aB W b #[Z I x,Z I y] 40→aB W c #[Z I z,Z I t] 40→aB W d #[Z I x,Z I y,Z I z,Z I t] 40→Calls Tryz.prog 97 #[.func (.func 98) #[] #[aA (some ⟨b,0,none⟩),aA (some ⟨c,0,none⟩)],aj (some ⟨d,0,none⟩) 2 2] W (fun e w'=>e= ah (dZ (kH (x,y) (z,t)))∧Below W.heap.size W w')):=zh fun W b c d h1 h2 h3 =>
  mY 98 #[aA (some ⟨b,0,none⟩),aA (some ⟨c,0,none⟩)] _ _ _ _ W (zG.two h3) (fun h W' hW'=>ab3 x y z t h b c W' (h1.later hW') (h2.later hW')) (fun args W=>by rfl)
 generalize kH (x,y) (z,t)=m at *;obtain ⟨⟨m1,m2⟩,m3⟩:=m;unfold dZ at *;simp only at *;go_enter Tryz.func30,Tryz.ntmps30
 go_wp2_with fail
 obtain ⟨wx,EW,hz,X,Y,R,dX⟩:=al4 w #[Z I x,Z I y] 40 #[Z I z,Z I t] 40 #[Z I 0,Z I 0] 40 #[Z I x,Z I y,Z I z,Z I t] 40;rw [EW];clear EW;have HB:=zh hz;clear hz;refine (H.out _ _ _ _ X.out Y.out dX.out).mono ?_;rintro e w1 ⟨rfl,hb1⟩;replace R:=R.bl hb1;replace HB:=zh (Bt HB.out hb1);clear hb1 H;have hx:=R.out;have cx:=hx.cell;have fx:=hx.free;have lx:=hx.lt;have hw:=HB.out;go_wp2_with fail
 refine bK rfl rfl bI Tryz.underlying40 rfl zk ?_;exact ⟨rfl,aJ⟩
end Go.Proofs.aW
namespace Go.gB
open Go Go.RowKit Go.Num Go.Mem
def Uz (w:World) (T:TypeId) (v:Value) (l:List Fr):Prop :=
 ∃ a cap,v= aj a l.length cap∧l.length≤cap∧cap≤9223372036854775807∧(a=none→cap=0) ∧
  ∀ ad,a=some ad→ad.spot=none∧∃ arr,aB w ad.block arr T∧∀ i (h:i<l.length),arr[ad.off+i*2]? =some (.string l[i].n)∧arr[ad.off+i*2+1]? =some (.string l[i].d)
theorem Uz.later {w w':World} {T:TypeId} {v:Value} {l:List Fr} (h:Uz w T v l) (hb:Below w.heap.size w w'):Uz w' T v l:=by
 obtain ⟨a,cap,h1,h2,h3,h4,h5⟩:=h;refine ⟨a,cap,h1,h2,h3,h4,fun ad had=>?_⟩;obtain ⟨h6,arr,h7,h8⟩:=h5 ad had;exact ⟨h6,arr,h7.later hb,h8⟩
theorem Uz.read {w:World} {T:TypeId} {v:Value} {l:List Fr} (h:Uz w T v l) :
  ∃ a cap,v= aj a l.length cap∧l.length≤cap∧cap≤9223372036854775807∧∀ k (_:k<l.length),∃ b off,a=some ⟨b,off,none⟩∧b<w.heap.size∧w.cell? ⟨b,off+k*2,none⟩=some (.string l[k].n)∧w.cell? ⟨b,off+k*2+1,none⟩=some (.string l[k].d):=by
 obtain ⟨a,cap,h1,h2,h3,h4,h5⟩:=h;refine ⟨a,cap,h1,h2,h3,fun k hk=>?_⟩;cases a with
 | none=>have:=h4 rfl;omega
 | some ad =>
  obtain ⟨h6,arr,h7,h8⟩:=h5 ad rfl;obtain ⟨b,off,sp⟩:=ad;simp only at h6;subst h6;obtain ⟨h9,h10⟩:=h8 k hk;exact ⟨b,off,rfl,h7.lt,(h7.cell _).trans h9,(h7.cell _).trans h10⟩
def rF (l:List Fr):Int:=if l.all (fun a=>(rd a).isSome) then 0 else 20
theorem KV {a:Fr} (h:(rd a).isSome=true):A8 a=0:=by unfold A8;rw [h];rfl
theorem WZ {a:Fr} (h:(rd a).isSome=false):A8 a=20:=by unfold A8;rw [h];rfl
def ap8 (w:World) (v:Value) (m:List (List Fr)):Prop :=
 ∃ rs:List Value,Row w 148 v rs∧rs.length=m.length∧∀ i (h:i<rs.length) (h':i<m.length),Uz w 32 rs[i] m[i]
theorem ap8.later {w w':World} {v:Value} {m:List (List Fr)} (h:ap8 w v m) (hb:Below w.heap.size w w'):ap8 w' v m:=by
 obtain ⟨rs,h1,h2,h3⟩:=h;exact ⟨rs,h1.later hb,h2,fun i h h'=>(h3 i h h').later hb⟩
def Fill (w:World) (g:Nat) (T:TypeId) (n k:Nat) (ok:World→Nat→Value→Value→Prop):Prop :=
 ∃ arr,aB w g arr T∧arr.size=n*2∧∀ i,i<k→∃ x y,arr[i*2]? =some x∧arr[i*2+1]? =some y∧ok w i x y
theorem Fill.box {w:World} {g:Nat} {T:TypeId} {n k:Nat} {ok:World→Nat→Value→Value→Prop} (h:Fill w g T n k ok):∃ arr,aB w g arr T∧arr.size=n*2:=by
 obtain ⟨arr,h1,h2, -⟩:=h;exact ⟨arr,h1,h2⟩
theorem Fill.lt {w:World} {g:Nat} {T:TypeId} {n k:Nat} {ok:World→Nat→Value→Value→Prop} (h:Fill w g T n k ok):g<w.heap.size:=by
 obtain ⟨arr,h1, -⟩:=h;exact h1.lt
theorem Fill.later {w w':World} {g:Nat} {T:TypeId} {n k:Nat} {ok:World→Nat→Value→Value→Prop} (h:Fill w g T n k ok) (hb:Below w.heap.size w w') (hok:∀ i x y,ok w i x y→ok w' i x y):Fill w' g T n k ok:=by
 obtain ⟨arr,h1,h2,h3⟩:=h;refine ⟨arr,h1.later hb,h2,fun i hi=>?_⟩;obtain ⟨x,y,k1,k2,k3⟩:=h3 i hi;exact ⟨x,y,k1,k2,hok _ _ _ k3⟩
theorem Fill.cells {w:World} {g:Nat} {T:TypeId} {n k:Nat} {ok:World→Nat→Value→Value→Prop} (h:Fill w g T n k ok) {j:Nat} (hj:j<n) :
  (∃ x,w.cell? ⟨g,j*2,none⟩=some x)∧(∃ y,w.cell? ⟨g,j*2+1,none⟩=some y)∧∀ o,w.frozen? ⟨g,o,none⟩=false:=by
 obtain ⟨arr,h1,h2,h3⟩:=h;refine ⟨⟨arr[j*2]'zo,?_⟩,⟨arr[j*2+1]'zo,?_⟩,h1.free⟩
 ·rw [h1.cell];exact Array.getElem?_eq_getElem _
 ·rw [h1.cell];exact Array.getElem?_eq_getElem _
theorem Fill.step {w:World} {g:Nat} {T:TypeId} {n k:Nat} {ok:World→Nat→Value→Value→Prop} {x y:Value} (h:Fill w g T n k ok) (hk:k<n)
  (hok:∀ i x' y',ok w i x' y'→ok ((w.setCell ⟨g,k*2,none⟩ x).setCell ⟨g,k*2+1,none⟩ y) i x' y')
  (hx:ok ((w.setCell ⟨g,k*2,none⟩ x).setCell ⟨g,k*2+1,none⟩ y) k x y) :
  Fill ((w.setCell ⟨g,k*2,none⟩ x).setCell ⟨g,k*2+1,none⟩ y) g T n (k+1) ok:=by
 obtain ⟨arr,h1,h2,h3⟩:=h;refine ⟨(arr.setIfInBounds (k*2) x).setIfInBounds (k*2+1) y,(h1.set _ _).set _ _,by simp [h2],fun i hi=>?_⟩
 rcases aR i k with h|h
 ·obtain ⟨x',y',k1,k2,k3⟩:=h3 i h;refine ⟨x',y',?_,?_,hok _ _ _ k3⟩
  ·rw [Array.getElem?_setIfInBounds,if_neg zo,Array.getElem?_setIfInBounds,if_neg zo,k1]
  ·rw [Array.getElem?_setIfInBounds,if_neg zo,Array.getElem?_setIfInBounds,if_neg zo,k2]
 ·obtain rfl:i=k:=by omega
  refine ⟨x,y,?_,?_,hx⟩
  ·rw [Array.getElem?_setIfInBounds,if_neg zo,Array.getElem?_setIfInBounds,if_pos rfl,if_pos zo]
  ·rw [Array.getElem?_setIfInBounds,if_pos rfl,if_pos (by simp;omega)]
def Ud (f:Nat→Int) (w:World) (i:Nat) (x y:Value):Prop:=∃ pa l ca,x= aj pa l ca∧y= ak (decide (f i<0))∧bZ w (aj pa l ca) (f i).natAbs
theorem Ud.later {f:Nat→Int} {w w':World} (hb:Below w.heap.size w w') (i:Nat) (x y:Value) (h:Ud f w i x y):Ud f w' i x y:=by
 obtain ⟨pa,l,ca,h1,h2,h3⟩:=h;exact ⟨pa,l,ca,h1,h2,h3.later hb⟩
def Keep (l:List TypeId) (w w':World):Prop:=∀ b cs T,T∉l→aB w b cs T→aB w' b cs T
theorem Keep.of_below {w w':World} {l:List TypeId} (h:Below w.heap.size w w'):Keep l w w':=fun _ _ _ _ hx=>hx.later h
theorem Keep.trans {a b c:World} {l:List TypeId} (h:Keep l a b) (k:Keep l b c):Keep l a c:=fun x cs T hT hx=>k x cs T hT (h x cs T hT hx)
theorem Keep.mono {a b:World} {l m:List TypeId} (h:Keep l a b) (k:∀ T,T∈l→T∈m):Keep m a b:=fun x cs T hT hx=>h x cs T (fun e=>hT (k T e)) hx
theorem Keep.setCell {w:World} {b:Nat} {T:TypeId} {o:Nat} {u:Value} (h:Fe w b T):Keep [T] w (w.setCell ⟨b,o,none⟩ u):=fun x cs T' hT hx=>by
 obtain ⟨cs',hb⟩:=h;exact hx.setOther u (hx.ne hb (fun e=>hT (by simp [e])))
theorem Keep.grown {w w':World} {base k:Nat} {e:TypeId} {s:Nat} {v:Value} {xs:List Value} (hown:w.ownsRow base e s v k xs) (hg:w.grownBy w' v.ownBlock):Keep [e] w w':=fun b cs T hT h=>by
 unfold aB at *;rw [hg.block b (Array.getElem?_eq_some_iff.1 h).1 ?_]
 ·exact h
 ·intro he;obtain ⟨-, ⟨rfl, -⟩|⟨g,cap,cur,rfl, -, hgg, -⟩⟩:=hown
  ·cases he
  ·simp only [Value.ownBlock,Option.some.injEq] at he;subst he;rw [h] at hgg;cases hgg
   exact hT zi
theorem Row.kept {l:List TypeId} {w w':World} {T:TypeId} {v:Value} {xs:List Value} (h:Row w T v xs) (k:Keep l w w') (hT:T∉l):Row w' T v xs:=by
 obtain ⟨a,cap,h1,h2,h3,h4,h5⟩:=h;refine ⟨a,cap,h1,h2,h3,h4,fun ad had=>?_⟩;obtain ⟨h6,arr,h7,h8⟩:=h5 ad had;exact ⟨h6,arr,k _ _ _ hT h7,h8⟩
theorem bZ.kept {l:List TypeId} {w w':World} {v:Value} {n:Nat} (h:bZ w v n) (k:Keep l w w') (hT:61∉l):bZ w' v n:=Row.kept h k hT
theorem fK.kept {l:List TypeId} {w w':World} {v:Value} {n:Int} (h:fK w v n) (k:Keep l w w') (hT:61∉l):fK w' v n:=by
 obtain ⟨pa,l,ca,h1,h2⟩:=h;exact ⟨pa,l,ca,h1,bZ.kept h2 k hT⟩
theorem Ud.kept {l:List TypeId} {f:Nat→Int} {w w':World} (k:Keep l w w') (hT:61∉l) (i:Nat) (x y:Value) (h:Ud f w i x y):Ud f w' i x y:=by
 obtain ⟨pa,l,ca,h1,h2,h3⟩:=h;exact ⟨pa,l,ca,h1,h2,bZ.kept h3 k hT⟩
theorem Uz.kept {l:List TypeId} {w w':World} {T:TypeId} {v:Value} {xs:List Fr} (h:Uz w T v xs) (k:Keep l w w') (hT:T∉l):Uz w' T v xs:=by
 obtain ⟨a,cap,h1,h2,h3,h4,h5⟩:=h;refine ⟨a,cap,h1,h2,h3,h4,fun ad had=>?_⟩;obtain ⟨h6,arr,h7,h8⟩:=h5 ad had;exact ⟨h6,arr,k _ _ _ hT h7,h8⟩
theorem RQ {l:List TypeId} {w w':World} {base k s:Nat} {e:TypeId} {v:Value} {xs:List Value} (h:w.ownsRow base e s v k xs) (hk:Keep l w w') (hT:e∉l):w'.ownsRow base e s v k xs:=by
 refine ⟨h.1,?_⟩
 rcases h.2 with hn|⟨g,cap,cur,rfl,hb,hgg,rest⟩
 ·exact .inl hn
 ·exact .inr ⟨g,cap,cur,rfl,hb,hk g cur e hT hgg,rest⟩
def Bw {α β:Type} (R:α→β→Prop) (xs:List α) (ys:List β):Prop:=ys.length=xs.length∧∀ i (h:i<xs.length) (h':i<ys.length),R xs[i] ys[i]
theorem Bw.nil {α β:Type} {R:α→β→Prop}:Bw R [] []:=⟨rfl,fun i h=>by cases h⟩
theorem Bw.snoc {α β:Type} {R:α→β→Prop} {xs:List α} {ys:List β} {x:α} {y:β} (h:Bw R xs ys) (hr:R x y):Bw R (xs++[x]) (ys++[y]):=by
 obtain ⟨h1,h2⟩:=h;refine ⟨by simp [h1],fun i h h'=>?_⟩
 by_cases hi:i<xs.length
 ·rw [List.getElem_append_left hi,List.getElem_append_left zo];exact h2 i hi zo
 ·have e:i=xs.length:=by simp at h;omega
  subst e;rw [List.getElem_append_right (aC _),List.getElem_append_right zo]
  simpa using hr
theorem Bw.mono {α β:Type} {R S:α→β→Prop} {xs:List α} {ys:List β} (h:Bw R xs ys) (k:∀ x y,R x y→S x y):Bw S xs ys:=⟨h.1,fun i a b=>k _ _ (h.2 i a b)⟩
end Go.gB
namespace Go.Mem
open Go Go.RowKit Go.SW Go.Num Go.gB
abbrev Rl (α:Type):=World→α→List Value→Prop
def Bv {α:Type} (m:List TypeId) (R:Rl α):Prop:=∀ w w' a c,Keep m w w'→R w a c→R w' a c
theorem Bv.sub {α:Type} {m l:List TypeId} {R:Rl α} (h:Bv m R) (k:∀ T,T∈l→T∈m):Bv l R:=fun w w' a c hk hr=>h w w' a c (hk.mono k) hr
theorem Bv.nil {α:Type} {m:List TypeId} {R:Rl α} (h:Bv m R):Bv [] R:=h.sub (fun _ h=>by cases h)
def nH {α:Type} (w:World) (B:Nat) (T:TypeId) (s:Nat) (R:Rl α) (v:Value) (l:List α):Prop :=
 ∃ xs:List (List Value),w.ownsRow B T s v l.length xs.flatten∧Bw (fun a c=>R w a c∧c.length=s) l xs
theorem nH.nil {α:Type} (w:World) (B:Nat) (T:TypeId) (s:Nat) (R:Rl α):nH w B T s R (aj none 0 0) []:=⟨[],World.ownsRow_nil _ _ _ _,Bw.nil⟩
theorem nH.slice {α:Type} {w:World} {B:Nat} {T:TypeId} {s:Nat} {R:Rl α} {v:Value} {l:List α} (h:nH w B T s R v l):∃ a c,v= aj a l.length c:=by
 obtain ⟨xs,⟨h1,⟨rfl,h2⟩|⟨g,cap,cur,rfl, -⟩⟩, -⟩:=h
 ·exact ⟨_,_,by rw [h2]⟩
 ·exact ⟨_,_,rfl⟩
theorem nH.at {α:Type} {w:World} {B:Nat} {T:TypeId} {s n:Nat} {R:Rl α} {v:Value} {l:List α} (h:nH w B T s R v l) (hn:l.length=n):∃ a c,v= aj a n c:=hn ▸ h.slice
theorem nH.kept {α:Type} {w w':World} {B:Nat} {T:TypeId} {s:Nat} {R:Rl α} {v:Value} {l:List α} {m:List TypeId} (h:nH w B T s R v l) (k:Keep m w w') (hT:T∉m) (hR:Bv m R):nH w' B T s R v l:=by
 obtain ⟨xs,h1,h2⟩:=h;exact ⟨xs,RQ h1 k hT,h2.mono fun _ _ h=>⟨hR _ _ _ _ k h.1,h.2⟩⟩
theorem nH.later {α:Type} {w w':World} {B:Nat} {T:TypeId} {s:Nat} {R:Rl α} {v:Value} {l:List α} (h:nH w B T s R v l) (hb:Below w.heap.size w w') (hR:Bv [] R):nH w' B T s R v l:=h.kept (Keep.of_below hb) zi hR
theorem Jo {P:Program} {ops:Array Oper} {rest:List Oper} {o:Oper} {a:Act} {Q:Exit→Act→World→Prop} {w w0:World} (hgd:o.guard=none) (s x:Operand) (t:TypeId)
  (ho:o.op= .call { callee:=.builtin .append,args:=#[s,x],argTypes:=#[t,t] }) (e:TypeId) (i:TypeInfo) (z:Value) (size bytes:Nat) (ht:P.underlying t=some (.slice e)) (hi:P.info? e=some i) (hz:i.zero=some z)
  (hsize:i.size=size) (hby:i.bytes=bytes) (hzs:z.cells.size=size) (hsz:0<size) {α:Type} (R:Rl α) (v:Value) (l:List α) (hs:a.eval s=v) (hG:nH w w0.heap.size e size R v l) (hb:Below w0.heap.size w0 w)
  (b:Nat) (c:List Value) (y:α) (hx:a.eval x= aj (some ⟨b,0,none⟩) 1 1) (hbx:aB w b c.toArray e) (hc:c.length=size) (h1:∀ u∈c,u.oneCell'=true) (hy:R w y c) (hR:Bv [e] R) (hn:l.length≤1000000) (hbytes:bytes≤1000)
  (h:∀ v' w',nH w' w0.heap.size e size R v' (l++[y])→Below w0.heap.size w0 w'→Keep [e] w w'→wpList P ops Q rest (a.put o.dst v') w'):wpList P ops Q (o::rest) a w:=by
 obtain ⟨xs,hown,hall⟩:=hG;refine wpList_append_own w hgd s x t ho w0.heap.size e i z size bytes ht hi hz hsize hby hzs hsz v l.length xs.flatten hs hown ⟨b,0,none⟩ 1 1 c hx (by rw [hc,iw]) (fun j u hu=>?_) h1 (by unfold maxLen;omega) ?_ hb.size (fun v' w' hown' hg _=>?_)
 ·rw [Addr.add_lit,hbx.cell,dJ,List.getElem?_toArray,hu]
 ·have:=fA (show l.length+1≤1000001 by omega) hbytes;omega
 ·have hk:Keep [e] w w':=Keep.grown hown hg;refine h v' w' ⟨xs++[c],?_,(Bw.mono hall fun a c h=>⟨hR _ _ _ _ hk h.1,h.2⟩).snoc ⟨hR _ _ _ _ hk hy,hc⟩⟩ (hb.grown hg hb.size fun r hr=>?_) hk
  ·rw [List.length_append,List.flatten_append]
   simpa using hown'
  ·obtain ⟨-, ⟨rfl, -⟩|⟨g,cap,cur,rfl,hg1, -⟩⟩:=hown
   ·cases hr
   ·simp only [Value.ownBlock,Option.some.injEq] at hr;omega
def Qi {α:Type} (w:World) (T:TypeId) (s:Nat) (R:Rl α) (v:Value) (l:List α):Prop :=
 ∃ a cap,v= aj a l.length cap∧l.length≤cap∧cap≤9223372036854775807∧(a=none→cap=0) ∧
  ∀ ad,a=some ad→ad.spot=none∧∃ arr,aB w ad.block arr T∧∀ i (h:i<l.length),∃ c,R w l[i] c∧c.length=s∧∀ j,j<s→arr[ad.off+i*s+j]? =c[j]?
theorem Qi.kept {α:Type} {w w':World} {T:TypeId} {s:Nat} {R:Rl α} {v:Value} {l:List α} {m:List TypeId} (h:Qi w T s R v l) (k:Keep m w w') (hT:T∉m) (hR:Bv m R):Qi w' T s R v l:=by
 obtain ⟨a,cap,h1,h2,h3,h4,h5⟩:=h;refine ⟨a,cap,h1,h2,h3,h4,fun ad had=>?_⟩;obtain ⟨h6,arr,h7,h8⟩:=h5 ad had;refine ⟨h6,arr,k _ _ _ hT h7,fun i hi=>?_⟩;obtain ⟨c,k1,k2,k3⟩:=h8 i hi;exact ⟨c,hR _ _ _ _ k k1,k2,k3⟩
theorem Qi.later {α:Type} {w w':World} {T:TypeId} {s:Nat} {R:Rl α} {v:Value} {l:List α} (h:Qi w T s R v l) (hb:Below w.heap.size w w') (hR:Bv [] R):Qi w' T s R v l:=h.kept (Keep.of_below hb) zi hR
theorem Qi.slice {α:Type} {w:World} {T:TypeId} {s:Nat} {R:Rl α} {v:Value} {l:List α} (h:Qi w T s R v l):∃ a c,v= aj a l.length c:=by
 obtain ⟨a,c,h1, -⟩:=h;exact ⟨a,c,h1⟩
theorem Qi.read {α:Type} {w:World} {T:TypeId} {s:Nat} {R:Rl α} {v:Value} {l:List α} (h:Qi w T s R v l) :
  ∃ a cap,v= aj a l.length cap∧l.length≤cap∧cap≤9223372036854775807∧∀ k (_:k<l.length),∃ b off c,a=some ⟨b,off,none⟩∧b<w.heap.size∧R w l[k] c∧c.length=s∧∀ j,j<s→w.cell? ⟨b,off+k*s+j,none⟩=c[j]? :=by
 obtain ⟨a,cap,h1,h2,h3,h4,h5⟩:=h;refine ⟨a,cap,h1,h2,h3,fun k hk=>?_⟩;cases a with
 | none=>have:=h4 rfl;omega
 | some ad =>
  obtain ⟨h6,arr,h7,h8⟩:=h5 ad rfl;obtain ⟨b,off,sp⟩:=ad;simp only at h6;subst h6;obtain ⟨c,k1,k2,k3⟩:=h8 k hk;exact ⟨b,off,c,rfl,h7.lt,k1,k2,fun j hj=>(h7.cell _).trans (k3 j hj)⟩
theorem Zp {xs:List (List Value)} {s:Nat} (h:∀ c∈xs,c.length=s):∀ {i:Nat} (hi:i<xs.length) {j:Nat},j<s→xs.flatten[i*s+j]? =xs[i][j]? :=by
 induction xs with
 | nil=>intro i hi;cases hi
 | cons x t ih =>
  intro i hi j hj;have hx:=h x zi;rw [List.flatten_cons];cases i with
  | zero =>
   rw [Nat.zero_mul,dJ,eO zo];rfl
  | succ i =>
   rw [dY (by rw [hx,Nat.succ_mul];omega),hx];rw [show (i+1)*s+j - s=i*s+j by rw [Nat.succ_mul];omega];exact ih (fun c hc=>h c (by simp [hc])) (by simpa using hi) hj
theorem Xn {α β:Type} {R:α→β→Prop} {S:β→Prop} {xs:List α} {ys:List β} (h:Bw R xs ys) (k:∀ a b,R a b→S b):∀ b∈ys,S b:=fun b hb=>by
 obtain ⟨i,hi,rfl⟩:=List.getElem_of_mem hb;exact k _ _ (h.2 i (by have:=h.1;omega) hi)
theorem nH.slV {α:Type} {w:World} {B:Nat} {T:TypeId} {s:Nat} {R:Rl α} {v:Value} {l:List α} (h:nH w B T s R v l):Qi w T s R v l:=by
 obtain ⟨xs,⟨h1,⟨rfl,h2⟩|⟨g,cap,cur,rfl,h3,h4,h5,h6,h7,h8⟩⟩,hall⟩:=h
 ·have:l=[]:=List.length_eq_zero_iff.1 h2;subst this;exact ⟨none,0,rfl,aC _,by omega,fun _=>rfl,fun _ h=>by cases h⟩
 ·unfold maxLen at h6;refine ⟨_,cap,rfl,h5,h6,(fun h=>by cases h),fun ad had=>?_⟩;cases had
  refine ⟨rfl,cur,h4,fun i hi=>?_⟩;have hix:i<xs.length:=by have:=hall.1;omega
  obtain ⟨k1,k2⟩:=hall.2 i hi hix;refine ⟨xs[i],k1,k2,fun j hj=>?_⟩;have e:=Zp (Xn (S:=fun c=>c.length=s) hall fun _ _ h=>h.2) hix hj;rw [dJ,← Array.getElem?_toList,← e,← h8]
  have hlt:i*s+j<l.length*s:=by
   have:=bf s (show i+1≤l.length by omega);rw [Nat.succ_mul] at this;omega
  rw [List.getElem?_take_of_lt hlt]
end Go.Mem
