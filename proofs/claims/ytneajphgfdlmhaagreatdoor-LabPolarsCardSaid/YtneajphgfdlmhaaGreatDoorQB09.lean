/- Lemmas for the proof. No condition. -/
import Derived.Test.YtneajphgfdlmhaaGreatDoorQB07
import Derived.Laws.MakeOwn
import Derived.RangeFuncBox
set_option linter.unusedVariables false
set_option linter.unusedSimpArgs false
set_option maxRecDepth 100000
set_option maxHeartbeats 16000000
open Array renaming getElem?_eq_none → bZ
open Bool renaming and_eq_true → aK, false_eq_true → dJ
open Go.Ending renaming returned → aj
open Go.IntKind renaming i64 → I
open Go.Value renaming agg → au, bool → ak, int → Z, pointer → aB, slice → ah, tuple → aG
open List renaming getElem?_append_left → eO, getElem?_append_right → dZ, length_cons → bg, range → dz
open Nat renaming add_mul → dM, add_sub_cancel → dS, add_zero → fJ, div_add_mod → dF, div_eq_of_lt → fI, div_lt_iff_lt_mul → dw, le_refl → aD, le_trans → ay, lt_of_le_of_lt → gN, lt_of_lt_of_le → aI, lt_or_ge → aO, mod_eq_of_lt → gq, mod_lt → fC, mul_add → aX, mul_assoc → dx, mul_comm → aL, mul_le_mul → dP, mul_le_mul_left → aR, mul_le_mul_right → aZ, one_mul → gQ, pow_add → fQ, pow_le_pow_right → bI, pow_succ → bN, strongRecOn → gL, zero_add → dK
namespace Go.Proofs.dH
open Go Go.RowKit Go.SW Go.Num Go.Mem Go.Proofs Go.gD
def jy (N:Int) (d:Nat):Int:=(2*N+d) / (2*(d:Int))
theorem Jt (N:Int) {d:Nat} (hd:0<d):jy N d*(2*(d:Int))≤2*N+d∧2*N+d<(jy N d+1)*(2*(d:Int)):=by
 unfold jy;refine ⟨Int.ediv_mul_le _ zo,?_⟩;have:=Int.lt_ediv_add_one_mul_self (2*N+(d:Int)) (b:=2*(d:Int)) zo;exact this
theorem BO {N n:Int} {d:Nat} (hd:0<d) (h1:n*(d:Int)≤N) (h2:N<(n+1)*(d:Int)):Gr N d false=n:=by
 unfold Gr;rw [if_neg zi];refine Int.le_antisymm ?_ ((Int.le_ediv_iff_mul_le zo).2 h1);have:=(Int.ediv_lt_iff_lt_mul (c:=(d:Int)) zo).2 h2;omega
theorem Lr {N n:Int} {d:Nat} (hd:0<d) (h1:(n - 1)*(d:Int)<N) (h2:N≤n*(d:Int)):Gr N d true=n:=by
 unfold Gr;rw [if_pos rfl]
 have: -N / (d:Int)= -n:=by
  refine Int.le_antisymm ?_ ((Int.le_ediv_iff_mul_le zo).2 (by rw [Int.neg_mul];omega))
  have:=(Int.ediv_lt_iff_lt_mul (a:= -N) (b:= -n+1) (c:=(d:Int)) zo).2 (by
   have e:(-n+1)*(d:Int)= -((n - 1)*(d:Int)):=by rw [← Int.neg_mul];congr 1;omega
   rw [e];omega)
  omega
 omega
def arE (N:Int) (d:Nat):(Int × Int) × Int :=
 if -9223372036854775808≤jy N d∧jy N d<9223372036854775808 then
  (if iG (jy N d) (jy N d) then gT (jy N d+(if N<jy N d*d then -1 else 0)) (jy N d+(if jy N d*d<N then 1 else 0)) else ((0,0),6))
 else ((0,0),6)
theorem ag2 (N:Int) {d:Nat} (hd:0<d):arE N d=gT (Gr N d false) (Gr N d true):=by
 obtain ⟨h1,h2⟩:=Jt N hd;have m1:jy N d*(2*(d:Int))=2*(jy N d*(d:Int)):=by rw [← Int.mul_assoc,Int.mul_comm (jy N d) 2,Int.mul_assoc]
 have m2:(jy N d+1)*(2*(d:Int))=2*(jy N d*(d:Int))+2*(d:Int):=by rw [Int.add_mul,m1,Int.one_mul]
 rw [m1] at h1;rw [m2] at h2;unfold arE;generalize jy N d=n at *;have e1:(n+1)*(d:Int)=n*(d:Int)+d:=by rw [Int.add_mul,Int.one_mul]
 have e2:(n - 1)*(d:Int)=n*(d:Int) - d:=by rw [Int.sub_mul,Int.one_mul]
 have e3:(n - 1+1)*(d:Int)=n*(d:Int):=by congr 1;omega
 have e4:(n+1 - 1)*(d:Int)=n*(d:Int):=by congr 1;omega
 have key:∃ lo hi,Gr N d false=lo∧Gr N d true=hi∧lo=n+(if N<n*(d:Int) then -1 else 0)∧hi=n+(if n*(d:Int)<N then 1 else 0):=by
  rcases Int.lt_trichotomy N (n*(d:Int)) with c|c|c
  ·refine ⟨n - 1,n,BO hd zo zo,Lr hd zo zo,by rw [if_pos c];omega,by rw [if_neg zo];omega⟩
  ·refine ⟨n,n,BO hd zo zo,Lr hd zo zo,by rw [if_neg zo];omega,by rw [if_neg zo];omega⟩
  ·refine ⟨n,n+1,BO hd zo zo,Lr hd zo zo,by rw [if_neg zo];omega,by rw [if_pos c]⟩
 obtain ⟨lo,hi,k1,k2,k3,k4⟩:=key;rw [k1,k2,← k3,← k4];have hlo:lo=n∨lo=n - 1:=by rw [k3];split<;>omega
 have hhi:hi=n∨hi=n+1:=by rw [k4];split<;>omega
 have hor:lo=n∨hi=n:=by
  rw [k3,k4]
  by_cases c:N<n*(d:Int)
  ·right;rw [if_neg zo];omega
  ·left;rw [if_neg c];omega
 by_cases c1: -9223372036854775808≤n∧n<9223372036854775808
 ·rw [if_pos c1];cases hb:iG n n
  ·rw [if_neg zi];unfold gT;rw [if_neg];intro h;unfold iG at hb h;simp only [aK,decide_eq_true_eq,Bool.and_eq_false_iff,decide_eq_false_iff_not] at hb h;omega
  ·rw [if_pos rfl]
 ·rw [if_neg c1];unfold gT;rw [if_neg];intro h;unfold iG at h;simp only [aK,decide_eq_true_eq] at h;omega
end Go.Proofs.dH
namespace Go.gD
open Go Go.Num
theorem Ce (q:Rat) (E:Nat):q*((E:Nat):Rat)*((q.den:Nat):Rat)=((q.num*(E:Int):Int):Rat):=by
 have h:q*((q.den:Nat):Rat)=((q.num:Int):Rat):=by
  have h1:((q.num:Int):Rat) / ((q.den:Nat):Rat)=q:=by
   have:=Rat.mkRat_eq_div q.num q.den;rw [← this,Rat.mkRat_self]
  have h2:((q.den:Nat):Rat)≠0:=by have:=q.den_nz;exact_mod_cast this
  generalize ((q.den:Nat):Rat)=d at *;generalize ((q.num:Int):Rat)=m at *
  grind
 rw [Rat.intCast_mul,← h,Rat.intCast_natCast]
 grind
theorem TR (q:Rat) (n:Int) {E:Nat} (hE:0<E):q<(n:Rat) / ((E:Nat):Rat)↔q.num*(E:Int)<n*(q.den:Int):=by
 have hEq:(0:Rat)<((E:Nat):Rat):=by exact_mod_cast hE
 have hd:(0:Rat)<((q.den:Nat):Rat):=by exact_mod_cast q.den_pos
 rw [Rat.lt_div_iff hEq,← Rat.mul_lt_mul_right hd,Ce,← Rat.intCast_natCast,← Rat.intCast_mul,Rat.intCast_lt_intCast]
theorem Sk (q:Rat) (n:Int) {E:Nat} (hE:0<E):(n:Rat) / ((E:Nat):Rat)<q↔n*(q.den:Int)<q.num*(E:Int):=by
 have hEq:(0:Rat)<((E:Nat):Rat):=by exact_mod_cast hE
 have hd:(0:Rat)<((q.den:Nat):Rat):=by exact_mod_cast q.den_pos
 rw [Rat.div_lt_iff hEq,← Rat.mul_lt_mul_right hd,Ce,← Rat.intCast_natCast,← Rat.intCast_mul,Rat.intCast_lt_intCast]
theorem QW (q:Rat) (n:Int) {E:Nat} (hE:0<E):oK q ((n:Rat) / ((E:Nat):Rat))=if q.num*(E:Int)<n*(q.den:Int) then -1 else if n*(q.den:Int)<q.num*(E:Int) then 1 else 0:=by
 unfold oK;simp only [TR q n hE,Sk q n hE]
end Go.gD
namespace Go.Proofs.dH
open Go Go.RowKit Go.SW Go.Num Go.Mem Go.Proofs Go.gD
def oh (a b:Int × Int):(Int × Int) × Int:=if okB [a,b] then gT (a.1+b.1) (a.2+b.2) else ((0,0),30)
theorem Yy (x y z t:Int) (h0:okB [(x,y),(z,t)]=true) (b c:Nat) (w:World) (h:aA w b #[Z I x,Z I y] 40) (k:aA w c #[Z I z,Z I t] 40) :
  Calls Tryz.prog 98 #[aB (some ⟨b,0,none⟩),aB (some ⟨c,0,none⟩)] w (fun e w'=>e= aj (d9 (gT (x+z) (y+t)))∧Below w.heap.size w w'):=by
 have h0':iG x y=true∧iG z t=true:=by simpa [okB] using h0
 obtain ⟨hk1,hk2,hk3⟩: -1000000000000000000≤x∧x≤y∧y≤1000000000000000000:=by simpa [iG] using h0'.1
 obtain ⟨hk4,hk5,hk6⟩: -1000000000000000000≤z∧z≤t∧t≤1000000000000000000:=by simpa [iG] using h0'.2
 have H:=zh (fun W=>jK (x+z) (y+t) W);generalize gT (x+z) (y+t)=m at *;obtain ⟨⟨m1,m2⟩,m3⟩:=m;unfold d9 at *;simp only at *;have cb:=h.cell;have lb:=h.lt;have cc:=k.cell;have lc:=k.lt;clear h k h0 h0';go_enter Tryz.func98,Tryz.ntmps98
 go_wp2_with fail
 refine (H.out _).mono ?_;rintro e w1 ⟨rfl,hb1⟩;have hx:=aA.later (aA.new w #[Z I 0,Z I 0] 40) hb1;have cx:=hx.cell;have fx:=hx.free;have lx:=hx.lt;have hw:=Bt (show Below w.heap.size w (w.alloc (.cells #[Z I 0,Z I 0] 40)) from aF) hb1;go_wp2_with fail
 refine bH rfl rfl bf Tryz.underlying40 rfl zk ?_;exact ⟨rfl,aF⟩
theorem zJ (x y z t:Int) (w:World):Calls Tryz.prog 30 #[au #[Z I x,Z I y],au #[Z I z,Z I t]] w (fun e w'=>e= aj (d9 (oh (x,y) (z,t)))∧Below w.heap.size w w'):=by
 have H:Hid (∀ W b c d,aA W b #[Z I x,Z I y] 40→aA W c #[Z I z,Z I t] 40→aA W d #[Z I x,Z I y,Z I z,Z I t] 40→Calls Tryz.prog 97 #[.func (.func 98) #[] #[aB (some ⟨b,0,none⟩),aB (some ⟨c,0,none⟩)],ah (some ⟨d,0,none⟩) 2 2] W (fun e w'=>e= aj (d9 (oh (x,y) (z,t)))∧Below W.heap.size W w')):=zh fun W b c d h1 h2 h3 =>
  nK 98 #[aB (some ⟨b,0,none⟩),aB (some ⟨c,0,none⟩)] _ _ _ _ W (wY.two h3) (fun h W' hW'=>Yy x y z t h b c W' (h1.later hW') (h2.later hW')) (fun args W=>by rfl)
 generalize oh (x,y) (z,t)=m at *;obtain ⟨⟨m1,m2⟩,m3⟩:=m;unfold d9 at *;simp only at *;go_enter Tryz.func30,Tryz.ntmps30
 go_wp2_with fail
 obtain ⟨wx,EW,hz,X,Y,R,eZ⟩:=al4 w #[Z I x,Z I y] 40 #[Z I z,Z I t] 40 #[Z I 0,Z I 0] 40 #[Z I x,Z I y,Z I z,Z I t] 40;rw [EW];clear EW;have HB:=zh hz;clear hz;refine (H.out _ _ _ _ X.out Y.out eZ.out).mono ?_;rintro e w1 ⟨rfl,hb1⟩;replace R:=R.bl hb1;replace HB:=zh (Bt HB.out hb1);clear hb1 H;have hx:=R.out;have cx:=hx.cell;have fx:=hx.free;have lx:=hx.lt;have hw:=HB.out;go_wp2_with fail
 refine bH rfl rfl bf Tryz.underlying40 rfl zk ?_;exact ⟨rfl,aF⟩
end Go.Proofs.dH
namespace Go.gD
open Go Go.RowKit Go.Num Go.Mem
def R6 (w:World) (T:TypeId) (v:Value) (l:List Fr):Prop :=
 ∃ a cap,v= ah a l.length cap∧l.length≤cap∧cap≤9223372036854775807∧(a=none→cap=0) ∧
  ∀ ad,a=some ad→ad.spot=none∧∃ arr,aA w ad.block arr T∧∀ i (h:i<l.length),arr[ad.off+i*2]? =some (.string l[i].n)∧arr[ad.off+i*2+1]? =some (.string l[i].d)
theorem R6.later {w w':World} {T:TypeId} {v:Value} {l:List Fr} (h:R6 w T v l) (hb:Below w.heap.size w w'):R6 w' T v l:=by
 obtain ⟨a,cap,h1,h2,h3,h4,h5⟩:=h;refine ⟨a,cap,h1,h2,h3,h4,fun ad had=>?_⟩;obtain ⟨h6,arr,h7,h8⟩:=h5 ad had;exact ⟨h6,arr,h7.later hb,h8⟩
theorem R6.read {w:World} {T:TypeId} {v:Value} {l:List Fr} (h:R6 w T v l) :
  ∃ a cap,v= ah a l.length cap∧l.length≤cap∧cap≤9223372036854775807∧∀ k (_:k<l.length),∃ b off,a=some ⟨b,off,none⟩∧b<w.heap.size∧w.cell? ⟨b,off+k*2,none⟩=some (.string l[k].n)∧w.cell? ⟨b,off+k*2+1,none⟩=some (.string l[k].d):=by
 obtain ⟨a,cap,h1,h2,h3,h4,h5⟩:=h;refine ⟨a,cap,h1,h2,h3,fun k hk=>?_⟩;cases a with
 | none=>have:=h4 rfl;omega
 | some ad =>
  obtain ⟨h6,arr,h7,h8⟩:=h5 ad rfl;obtain ⟨b,off,sp⟩:=ad;simp only at h6;subst h6;obtain ⟨h9,h10⟩:=h8 k hk;exact ⟨b,off,rfl,h7.lt,(h7.cell _).trans h9,(h7.cell _).trans h10⟩
def qG (l:List Fr):Int:=if l.all (fun a=>(rd a).isSome) then 0 else 20
theorem J5 {a:Fr} (h:(rd a).isSome=true):Ak a=0:=by unfold Ak;rw [h];rfl
theorem U3 {a:Fr} (h:(rd a).isSome=false):Ak a=20:=by unfold Ak;rw [h];rfl
def ah0 (w:World) (v:Value) (m:List (List Fr)):Prop :=
 ∃ rs:List Value,Row w 148 v rs∧rs.length=m.length∧∀ i (h:i<rs.length) (h':i<m.length),R6 w 32 rs[i] m[i]
theorem ah0.later {w w':World} {v:Value} {m:List (List Fr)} (h:ah0 w v m) (hb:Below w.heap.size w w'):ah0 w' v m:=by
 obtain ⟨rs,h1,h2,h3⟩:=h;exact ⟨rs,h1.later hb,h2,fun i h h'=>(h3 i h h').later hb⟩
def Fill (w:World) (g:Nat) (T:TypeId) (n k:Nat) (ok:World→Nat→Value→Value→Prop):Prop :=
 ∃ arr,aA w g arr T∧arr.size=n*2∧∀ i,i<k→∃ x y,arr[i*2]? =some x∧arr[i*2+1]? =some y∧ok w i x y
theorem Fill.box {w:World} {g:Nat} {T:TypeId} {n k:Nat} {ok:World→Nat→Value→Value→Prop} (h:Fill w g T n k ok):∃ arr,aA w g arr T∧arr.size=n*2:=by
 obtain ⟨arr,h1,h2, -⟩:=h;exact ⟨arr,h1,h2⟩
theorem Fill.lt {w:World} {g:Nat} {T:TypeId} {n k:Nat} {ok:World→Nat→Value→Value→Prop} (h:Fill w g T n k ok):g<w.heap.size:=by
 obtain ⟨arr,h1, -⟩:=h;exact h1.lt
theorem Fill.later {w w':World} {g:Nat} {T:TypeId} {n k:Nat} {ok:World→Nat→Value→Value→Prop} (h:Fill w g T n k ok) (hb:Below w.heap.size w w') (hok:∀ i x y,ok w i x y→ok w' i x y):Fill w' g T n k ok:=by
 obtain ⟨arr,h1,h2,h3⟩:=h;refine ⟨arr,h1.later hb,h2,fun i hi=>?_⟩;obtain ⟨x,y,k1,k2,k3⟩:=h3 i hi;exact ⟨x,y,k1,k2,hok _ _ _ k3⟩
theorem Fill.cells {w:World} {g:Nat} {T:TypeId} {n k:Nat} {ok:World→Nat→Value→Value→Prop} (h:Fill w g T n k ok) {j:Nat} (hj:j<n) :
  (∃ x,w.cell? ⟨g,j*2,none⟩=some x)∧(∃ y,w.cell? ⟨g,j*2+1,none⟩=some y)∧∀ o,w.frozen? ⟨g,o,none⟩=false:=by
 obtain ⟨arr,h1,h2,h3⟩:=h;refine ⟨⟨arr[j*2]'zo,?_⟩,⟨arr[j*2+1]'zo,?_⟩,h1.free⟩
 ·rw [h1.cell];exact Array.getElem?_eq_getElem _
 ·rw [h1.cell];exact Array.getElem?_eq_getElem _
theorem Fill.step {w:World} {g:Nat} {T:TypeId} {n k:Nat} {ok:World→Nat→Value→Value→Prop} {x y:Value} (h:Fill w g T n k ok) (hk:k<n)
  (hok:∀ i x' y',ok w i x' y'→ok ((w.setCell ⟨g,k*2,none⟩ x).setCell ⟨g,k*2+1,none⟩ y) i x' y')
  (hx:ok ((w.setCell ⟨g,k*2,none⟩ x).setCell ⟨g,k*2+1,none⟩ y) k x y) :
  Fill ((w.setCell ⟨g,k*2,none⟩ x).setCell ⟨g,k*2+1,none⟩ y) g T n (k+1) ok:=by
 obtain ⟨arr,h1,h2,h3⟩:=h;refine ⟨(arr.setIfInBounds (k*2) x).setIfInBounds (k*2+1) y,(h1.set _ _).set _ _,by simp [h2],fun i hi=>?_⟩
 rcases aO i k with h|h
 ·obtain ⟨x',y',k1,k2,k3⟩:=h3 i h;refine ⟨x',y',?_,?_,hok _ _ _ k3⟩
  ·rw [Array.getElem?_setIfInBounds,if_neg zo,Array.getElem?_setIfInBounds,if_neg zo,k1]
  ·rw [Array.getElem?_setIfInBounds,if_neg zo,Array.getElem?_setIfInBounds,if_neg zo,k2]
 ·obtain rfl:i=k:=by omega
  refine ⟨x,y,?_,?_,hx⟩
  ·rw [Array.getElem?_setIfInBounds,if_neg zo,Array.getElem?_setIfInBounds,if_pos rfl,if_pos zo]
  ·rw [Array.getElem?_setIfInBounds,if_pos rfl,if_pos (by simp;omega)]
def Rw (f:Nat→Int) (w:World) (i:Nat) (x y:Value):Prop:=∃ pa l ca,x= ah pa l ca∧y= ak (decide (f i<0))∧bW w (ah pa l ca) (f i).natAbs
theorem Rw.later {f:Nat→Int} {w w':World} (hb:Below w.heap.size w w') (i:Nat) (x y:Value) (h:Rw f w i x y):Rw f w' i x y:=by
 obtain ⟨pa,l,ca,h1,h2,h3⟩:=h;exact ⟨pa,l,ca,h1,h2,h3.later hb⟩
def Keep (l:List TypeId) (w w':World):Prop:=∀ b cs T,T∉l→aA w b cs T→aA w' b cs T
theorem Keep.of_below {w w':World} {l:List TypeId} (h:Below w.heap.size w w'):Keep l w w':=fun _ _ _ _ hx=>hx.later h
theorem Keep.trans {a b c:World} {l:List TypeId} (h:Keep l a b) (k:Keep l b c):Keep l a c:=fun x cs T hT hx=>k x cs T hT (h x cs T hT hx)
theorem Keep.mono {a b:World} {l m:List TypeId} (h:Keep l a b) (k:∀ T,T∈l→T∈m):Keep m a b:=fun x cs T hT hx=>h x cs T (fun e=>hT (k T e)) hx
theorem Keep.setCell {w:World} {b:Nat} {T:TypeId} {o:Nat} {u:Value} (h:DC w b T):Keep [T] w (w.setCell ⟨b,o,none⟩ u):=fun x cs T' hT hx=>by
 obtain ⟨cs',hb⟩:=h;exact hx.setOther u (hx.ne hb (fun e=>hT (by simp [e])))
theorem Keep.grown {w w':World} {base k:Nat} {e:TypeId} {s:Nat} {v:Value} {xs:List Value} (hown:w.ownsRow base e s v k xs) (hg:w.grownBy w' v.ownBlock):Keep [e] w w':=fun b cs T hT h=>by
 unfold aA at *;rw [hg.block b (Array.getElem?_eq_some_iff.1 h).1 ?_]
 ·exact h
 ·intro he;obtain ⟨-, ⟨rfl, -⟩|⟨g,cap,cur,rfl, -, hgg, -⟩⟩:=hown
  ·cases he
  ·simp only [Value.ownBlock,Option.some.injEq] at he;subst he;rw [h] at hgg;cases hgg
   exact hT zi
theorem Row.kept {l:List TypeId} {w w':World} {T:TypeId} {v:Value} {xs:List Value} (h:Row w T v xs) (k:Keep l w w') (hT:T∉l):Row w' T v xs:=by
 obtain ⟨a,cap,h1,h2,h3,h4,h5⟩:=h;refine ⟨a,cap,h1,h2,h3,h4,fun ad had=>?_⟩;obtain ⟨h6,arr,h7,h8⟩:=h5 ad had;exact ⟨h6,arr,k _ _ _ hT h7,h8⟩
theorem bW.kept {l:List TypeId} {w w':World} {v:Value} {n:Nat} (h:bW w v n) (k:Keep l w w') (hT:61∉l):bW w' v n:=Row.kept h k hT
theorem fD.kept {l:List TypeId} {w w':World} {v:Value} {n:Int} (h:fD w v n) (k:Keep l w w') (hT:61∉l):fD w' v n:=by
 obtain ⟨pa,l,ca,h1,h2⟩:=h;exact ⟨pa,l,ca,h1,bW.kept h2 k hT⟩
theorem Rw.kept {l:List TypeId} {f:Nat→Int} {w w':World} (k:Keep l w w') (hT:61∉l) (i:Nat) (x y:Value) (h:Rw f w i x y):Rw f w' i x y:=by
 obtain ⟨pa,l,ca,h1,h2,h3⟩:=h;exact ⟨pa,l,ca,h1,h2,bW.kept h3 k hT⟩
theorem R6.kept {l:List TypeId} {w w':World} {T:TypeId} {v:Value} {xs:List Fr} (h:R6 w T v xs) (k:Keep l w w') (hT:T∉l):R6 w' T v xs:=by
 obtain ⟨a,cap,h1,h2,h3,h4,h5⟩:=h;refine ⟨a,cap,h1,h2,h3,h4,fun ad had=>?_⟩;obtain ⟨h6,arr,h7,h8⟩:=h5 ad had;exact ⟨h6,arr,k _ _ _ hT h7,h8⟩
theorem Qt {l:List TypeId} {w w':World} {base k s:Nat} {e:TypeId} {v:Value} {xs:List Value} (h:w.ownsRow base e s v k xs) (hk:Keep l w w') (hT:e∉l):w'.ownsRow base e s v k xs:=by
 refine ⟨h.1,?_⟩
 rcases h.2 with hn|⟨g,cap,cur,rfl,hb,hgg,rest⟩
 ·exact .inl hn
 ·exact .inr ⟨g,cap,cur,rfl,hb,hk g cur e hT hgg,rest⟩
def AU {α β:Type} (R:α→β→Prop) (xs:List α) (ys:List β):Prop:=ys.length=xs.length∧∀ i (h:i<xs.length) (h':i<ys.length),R xs[i] ys[i]
theorem AU.nil {α β:Type} {R:α→β→Prop}:AU R [] []:=⟨rfl,fun i h=>by cases h⟩
theorem AU.snoc {α β:Type} {R:α→β→Prop} {xs:List α} {ys:List β} {x:α} {y:β} (h:AU R xs ys) (hr:R x y):AU R (xs++[x]) (ys++[y]):=by
 obtain ⟨h1,h2⟩:=h;refine ⟨by simp [h1],fun i h h'=>?_⟩
 by_cases hi:i<xs.length
 ·rw [List.getElem_append_left hi,List.getElem_append_left zo];exact h2 i hi zo
 ·have e:i=xs.length:=by simp at h;omega
  subst e;rw [List.getElem_append_right (aD _),List.getElem_append_right zo]
  simpa using hr
theorem AU.mono {α β:Type} {R S:α→β→Prop} {xs:List α} {ys:List β} (h:AU R xs ys) (k:∀ x y,R x y→S x y):AU S xs ys:=⟨h.1,fun i a b=>k _ _ (h.2 i a b)⟩
end Go.gD
namespace Go.Mem
open Go Go.RowKit Go.SW Go.Num Go.gD
abbrev Rl (α:Type):=World→α→List Value→Prop
def AQ {α:Type} (m:List TypeId) (R:Rl α):Prop:=∀ w w' a c,Keep m w w'→R w a c→R w' a c
theorem AQ.sub {α:Type} {m l:List TypeId} {R:Rl α} (h:AQ m R) (k:∀ T,T∈l→T∈m):AQ l R:=fun w w' a c hk hr=>h w w' a c (hk.mono k) hr
theorem AQ.nil {α:Type} {m:List TypeId} {R:Rl α} (h:AQ m R):AQ [] R:=h.sub (fun _ h=>by cases h)
def mI {α:Type} (w:World) (B:Nat) (T:TypeId) (s:Nat) (R:Rl α) (v:Value) (l:List α):Prop :=
 ∃ xs:List (List Value),w.ownsRow B T s v l.length xs.flatten∧AU (fun a c=>R w a c∧c.length=s) l xs
theorem mI.nil {α:Type} (w:World) (B:Nat) (T:TypeId) (s:Nat) (R:Rl α):mI w B T s R (ah none 0 0) []:=⟨[],World.ownsRow_nil _ _ _ _,AU.nil⟩
theorem mI.slice {α:Type} {w:World} {B:Nat} {T:TypeId} {s:Nat} {R:Rl α} {v:Value} {l:List α} (h:mI w B T s R v l):∃ a c,v= ah a l.length c:=by
 obtain ⟨xs,⟨h1,⟨rfl,h2⟩|⟨g,cap,cur,rfl, -⟩⟩, -⟩:=h
 ·exact ⟨_,_,by rw [h2]⟩
 ·exact ⟨_,_,rfl⟩
theorem mI.at {α:Type} {w:World} {B:Nat} {T:TypeId} {s n:Nat} {R:Rl α} {v:Value} {l:List α} (h:mI w B T s R v l) (hn:l.length=n):∃ a c,v= ah a n c:=hn ▸ h.slice
theorem mI.kept {α:Type} {w w':World} {B:Nat} {T:TypeId} {s:Nat} {R:Rl α} {v:Value} {l:List α} {m:List TypeId} (h:mI w B T s R v l) (k:Keep m w w') (hT:T∉m) (hR:AQ m R):mI w' B T s R v l:=by
 obtain ⟨xs,h1,h2⟩:=h;exact ⟨xs,Qt h1 k hT,h2.mono fun _ _ h=>⟨hR _ _ _ _ k h.1,h.2⟩⟩
theorem mI.later {α:Type} {w w':World} {B:Nat} {T:TypeId} {s:Nat} {R:Rl α} {v:Value} {l:List α} (h:mI w B T s R v l) (hb:Below w.heap.size w w') (hR:AQ [] R):mI w' B T s R v l:=h.kept (Keep.of_below hb) zi hR
theorem IG {P:Program} {ops:Array Oper} {rest:List Oper} {o:Oper} {a:Act} {Q:Exit→Act→World→Prop} {w w0:World} (hgd:o.guard=none) (s x:Operand) (t:TypeId)
  (ho:o.op= .call { callee:=.builtin .append,args:=#[s,x],argTypes:=#[t,t] }) (e:TypeId) (i:TypeInfo) (z:Value) (size bytes:Nat) (ht:P.underlying t=some (.slice e)) (hi:P.info? e=some i) (hz:i.zero=some z)
  (hsize:i.size=size) (hby:i.bytes=bytes) (hzs:z.cells.size=size) (hsz:0<size) {α:Type} (R:Rl α) (v:Value) (l:List α) (hs:a.eval s=v) (hG:mI w w0.heap.size e size R v l) (hb:Below w0.heap.size w0 w)
  (b:Nat) (c:List Value) (y:α) (hx:a.eval x= ah (some ⟨b,0,none⟩) 1 1) (hbx:aA w b c.toArray e) (hc:c.length=size) (h1:∀ u∈c,u.oneCell'=true) (hy:R w y c) (hR:AQ [e] R) (hn:l.length≤1000000) (hbytes:bytes≤1000)
  (h:∀ v' w',mI w' w0.heap.size e size R v' (l++[y])→Below w0.heap.size w0 w'→Keep [e] w w'→wpList P ops Q rest (a.put o.dst v') w'):wpList P ops Q (o::rest) a w:=by
 obtain ⟨xs,hown,hall⟩:=hG;refine wpList_append_own w hgd s x t ho w0.heap.size e i z size bytes ht hi hz hsize hby hzs hsz v l.length xs.flatten hs hown ⟨b,0,none⟩ 1 1 c hx (by rw [hc,gQ]) (fun j u hu=>?_) h1 (by unfold maxLen;omega) ?_ hb.size (fun v' w' hown' hg _=>?_)
 ·rw [Addr.add_lit,hbx.cell,dK,List.getElem?_toArray,hu]
 ·have:=dP (show l.length+1≤1000001 by omega) hbytes;omega
 ·have hk:Keep [e] w w':=Keep.grown hown hg;refine h v' w' ⟨xs++[c],?_,(AU.mono hall fun a c h=>⟨hR _ _ _ _ hk h.1,h.2⟩).snoc ⟨hR _ _ _ _ hk hy,hc⟩⟩ (hb.grown hg hb.size fun r hr=>?_) hk
  ·rw [List.length_append,List.flatten_append]
   simpa using hown'
  ·obtain ⟨-, ⟨rfl, -⟩|⟨g,cap,cur,rfl,hg1, -⟩⟩:=hown
   ·cases hr
   ·simp only [Value.ownBlock,Option.some.injEq] at hr;omega
def Pt {α:Type} (w:World) (T:TypeId) (s:Nat) (R:Rl α) (v:Value) (l:List α):Prop :=
 ∃ a cap,v= ah a l.length cap∧l.length≤cap∧cap≤9223372036854775807∧(a=none→cap=0) ∧
  ∀ ad,a=some ad→ad.spot=none∧∃ arr,aA w ad.block arr T∧∀ i (h:i<l.length),∃ c,R w l[i] c∧c.length=s∧∀ j,j<s→arr[ad.off+i*s+j]? =c[j]?
theorem Pt.kept {α:Type} {w w':World} {T:TypeId} {s:Nat} {R:Rl α} {v:Value} {l:List α} {m:List TypeId} (h:Pt w T s R v l) (k:Keep m w w') (hT:T∉m) (hR:AQ m R):Pt w' T s R v l:=by
 obtain ⟨a,cap,h1,h2,h3,h4,h5⟩:=h;refine ⟨a,cap,h1,h2,h3,h4,fun ad had=>?_⟩;obtain ⟨h6,arr,h7,h8⟩:=h5 ad had;refine ⟨h6,arr,k _ _ _ hT h7,fun i hi=>?_⟩;obtain ⟨c,k1,k2,k3⟩:=h8 i hi;exact ⟨c,hR _ _ _ _ k k1,k2,k3⟩
theorem Pt.later {α:Type} {w w':World} {T:TypeId} {s:Nat} {R:Rl α} {v:Value} {l:List α} (h:Pt w T s R v l) (hb:Below w.heap.size w w') (hR:AQ [] R):Pt w' T s R v l:=h.kept (Keep.of_below hb) zi hR
theorem Pt.slice {α:Type} {w:World} {T:TypeId} {s:Nat} {R:Rl α} {v:Value} {l:List α} (h:Pt w T s R v l):∃ a c,v= ah a l.length c:=by
 obtain ⟨a,c,h1, -⟩:=h;exact ⟨a,c,h1⟩
theorem Pt.read {α:Type} {w:World} {T:TypeId} {s:Nat} {R:Rl α} {v:Value} {l:List α} (h:Pt w T s R v l) :
  ∃ a cap,v= ah a l.length cap∧l.length≤cap∧cap≤9223372036854775807∧∀ k (_:k<l.length),∃ b off c,a=some ⟨b,off,none⟩∧b<w.heap.size∧R w l[k] c∧c.length=s∧∀ j,j<s→w.cell? ⟨b,off+k*s+j,none⟩=c[j]? :=by
 obtain ⟨a,cap,h1,h2,h3,h4,h5⟩:=h;refine ⟨a,cap,h1,h2,h3,fun k hk=>?_⟩;cases a with
 | none=>have:=h4 rfl;omega
 | some ad =>
  obtain ⟨h6,arr,h7,h8⟩:=h5 ad rfl;obtain ⟨b,off,sp⟩:=ad;simp only at h6;subst h6;obtain ⟨c,k1,k2,k3⟩:=h8 k hk;exact ⟨b,off,c,rfl,h7.lt,k1,k2,fun j hj=>(h7.cell _).trans (k3 j hj)⟩
theorem Xz {xs:List (List Value)} {s:Nat} (h:∀ c∈xs,c.length=s):∀ {i:Nat} (hi:i<xs.length) {j:Nat},j<s→xs.flatten[i*s+j]? =xs[i][j]? :=by
 induction xs with
 | nil=>intro i hi;cases hi
 | cons x t ih =>
  intro i hi j hj;have hx:=h x zi;rw [List.flatten_cons];cases i with
  | zero =>
   rw [Nat.zero_mul,dK,eO zo];rfl
  | succ i =>
   rw [dZ (by rw [hx,Nat.succ_mul];omega),hx];rw [show (i+1)*s+j - s=i*s+j by rw [Nat.succ_mul];omega];exact ih (fun c hc=>h c (by simp [hc])) (by simpa using hi) hj
theorem Vi {α β:Type} {R:α→β→Prop} {S:β→Prop} {xs:List α} {ys:List β} (h:AU R xs ys) (k:∀ a b,R a b→S b):∀ b∈ys,S b:=fun b hb=>by
 obtain ⟨i,hi,rfl⟩:=List.getElem_of_mem hb;exact k _ _ (h.2 i (by have:=h.1;omega) hi)
theorem mI.slV {α:Type} {w:World} {B:Nat} {T:TypeId} {s:Nat} {R:Rl α} {v:Value} {l:List α} (h:mI w B T s R v l):Pt w T s R v l:=by
 obtain ⟨xs,⟨h1,⟨rfl,h2⟩|⟨g,cap,cur,rfl,h3,h4,h5,h6,h7,h8⟩⟩,hall⟩:=h
 ·have:l=[]:=List.length_eq_zero_iff.1 h2;subst this;exact ⟨none,0,rfl,aD _,by omega,fun _=>rfl,fun _ h=>by cases h⟩
 ·unfold maxLen at h6;refine ⟨_,cap,rfl,h5,h6,(fun h=>by cases h),fun ad had=>?_⟩;cases had
  refine ⟨rfl,cur,h4,fun i hi=>?_⟩;have hix:i<xs.length:=by have:=hall.1;omega
  obtain ⟨k1,k2⟩:=hall.2 i hi hix;refine ⟨xs[i],k1,k2,fun j hj=>?_⟩;have e:=Xz (Vi (S:=fun c=>c.length=s) hall fun _ _ h=>h.2) hix hj;rw [dK,← Array.getElem?_toList,← e,← h8]
  have hlt:i*s+j<l.length*s:=by
   have:=aZ s (show i+1≤l.length by omega);rw [Nat.succ_mul] at this;omega
  rw [List.getElem?_take_of_lt hlt]
end Go.Mem
namespace Go.SW
open Go Go.RowKit
variable {P:Program} {ops:Array Oper} {Q:Exit→Act→World→Prop}
def Kv (x y:Nat):Nat→List Oper→List Oper
 | _,[]=>[]
 | k,o::l=>(match k.beq y with
  | true=>⟨o.dst,o.op,o.type,o.pos,o.after.push ⟨x,.chain⟩,o.guard⟩
  | false=>o)::Kv x y (k+1) l
def oh (x y:Nat) (ops:Array Oper):Array Oper:=(Kv x y 0 ops.toList).toArray
def wait (x:Nat) (o:Oper):Oper:=⟨o.dst,o.op,o.type,o.pos,o.after.push ⟨x,.chain⟩,o.guard⟩
theorem Kq (x y:Nat):∀ (l:List Oper) (k i:Nat),(Kv x y k l)[i]? =(l[i]?).map fun o=>if k+i=y then wait x o else o
 | [],_,_=>by simp [Kv]
 | o::l,k,0=>by
  unfold Kv;rw [List.getElem?_cons_zero,List.getElem?_cons_zero];cases h:k.beq y with
  | true=>rw [Nat.eq_of_beq_eq_true h];simp [wait]
  | false =>
   have:=Nat.ne_of_beq_eq_false h;simp [this]
 | o::l,k,i+1=>by
  unfold Kv;rw [List.getElem?_cons_succ,List.getElem?_cons_succ,Kq x y l (k+1) i];have:k+1+i=k+(i+1):=by omega
  rw [this]
theorem q8 (x y i:Nat) (ops:Array Oper):(oh x y ops)[i]? =(ops[i]?).map fun o=>if i=y then wait x o else o:=by
 unfold oh;rw [List.getElem?_toArray,Kq,dK,Array.getElem?_toList]
theorem Al (x y:Nat):∀ (l:List Oper) (k:Nat),(Kv x y k l).length=l.length
 | [],_=>rfl
 | o::l,k=>by unfold Kv;rw [bg,bg,Al x y l]
theorem FN (x y:Nat) (ops:Array Oper):(oh x y ops).size=ops.size:=by
 unfold oh;rw [List.size_toArray,Al,Array.length_toList]
theorem sF (x y:Nat) (tmps:Array Value) (g:Nat):yielded (oh x y ops) tmps g=yielded ops tmps g:=by
 unfold yielded;rw [q8];cases ops[g]? with
 | none=>rfl
 | some o =>
  have e:(if g=y then wait x o else o).dst=o.dst:=by split<;>rfl
  simp only [Option.map_some,Option.bind_some,e]
theorem wS (x y:Nat):∀ (l:List Nat) (a:Act) (w:World),wpOps P (oh x y ops) Q l a w→wpOps P ops Q l a w
 | [],_,_,h=>h
 | i::l,a,w,h=>by
  have ih:=wS x y l;unfold wpOps at h ⊢;rw [q8] at h;have hy:yielded (oh x y ops) a.tmps=yielded ops a.tmps:=funext fun g=>sF x y _ g;rw [hy] at h;cases ho:ops[i]? with
  | none =>
   simp only [ho,Option.map_none] at h ⊢;exact ih _ _ h
  | some o =>
   simp only [ho,Option.map_some] at h ⊢
   by_cases hi:i=y
   ·simp only [hi,if_true] at h;have e1:Region.wanted (wait x o) (yielded ops a.tmps)=Region.wanted o (yielded ops a.tmps):=rfl;rw [e1] at h;split
    ·rename_i hw;simp only [hw,if_true] at h
     rcases h with h|h
     ·exact .inl (Oper.wp_mono ih h)
     ·exact .inr h
    ·rename_i hw;simp only [hw,if_false,dJ] at h;exact ih _ _ h
   ·simp only [hi,if_false] at h;split
    ·rename_i hw;simp only [hw,if_true] at h
     rcases h with h|h
     ·exact .inl (Oper.wp_mono ih h)
     ·exact .inr h
    ·rename_i hw;simp only [hw,if_false,dJ] at h;exact ih _ _ h
theorem tO {x y i:Nat} {listed:Array Bool} (h:i∈Region.ready .any ops listed) (hy:i=y→listed.getD x false=true):i∈Region.ready .any (oh x y ops) listed:=by
 obtain ⟨h1,o,h2,h3⟩:=mem_ready.1 h;refine mem_ready.2 ⟨h1,_,by rw [q8,h2];rfl,fun e he hb=>?_⟩;split at he
 ·rename_i hi
  rcases Array.mem_push.1 he with he|he
  ·exact h3 e he hb
  ·rw [he];exact hy hi
 ·exact h3 e he hb
theorem Jb {x y i:Nat} {listed:Array Bool} (h:i∈Region.ready .any (oh x y ops) listed):i∈Region.ready .any ops listed:=by
 obtain ⟨h1,o',h2,h3⟩:=mem_ready.1 h;rw [q8] at h2;cases ho:ops[i]? with
 | none=>rw [ho] at h2;cases h2
 | some o =>
  rw [ho,Option.map_some,Option.some.injEq] at h2;refine mem_ready.2 ⟨h1,o,ho,fun e he hb=>h3 e ?_ hb⟩;rw [← h2];split
  ·exact Array.mem_push.2 (.inl he)
  ·exact he
theorem yj {i fuel:Nat} {listed:Array Bool} (h:i∈Region.ready .any ops listed) (t:Nat) :
  ∃ t',Region.linearise.go .any ops (fuel+1) t' listed []=i::Region.linearise.go .any ops fuel t (listed.setIfInBounds i true) []:=by
 obtain ⟨k,hk,hi⟩:=List.getElem_of_mem h;refine ⟨k+(Region.ready .any ops listed).length*t,?_⟩;simp only [Region.linearise.go]
 change (match (Region.ready .any ops listed)[(k+(Region.ready .any ops listed).length*t)%(Region.ready .any ops listed).length]? with
   | some i=>Region.linearise.go .any ops fuel ((k+(Region.ready .any ops listed).length*t) / (Region.ready .any ops listed).length) (listed.setIfInBounds i true) [i]
   | none=>[].reverse)=_
 have e1:(k+(Region.ready .any ops listed).length*t)%(Region.ready .any ops listed).length=k:=by
  rw [Nat.add_mul_mod_self_left,gq hk]
 have e2:(k+(Region.ready .any ops listed).length*t) / (Region.ready .any ops listed).length=t:=by
  rw [Nat.add_mul_div_left _ _ (gN (Nat.zero_le _) hk),fI hk,dK]
 rw [e1,e2,List.getElem?_eq_getElem hk,hi];simp only [];rw [linearise_go_acc,List.reverse_singleton,List.singleton_append]
theorem go_step (fuel t:Nat) (listed:Array Bool) :
  (Region.ready .any ops listed=[]∧Region.linearise.go .any ops (fuel+1) t listed []=[]) ∨
  ∃ i∈Region.ready .any ops listed,∃ t',Region.linearise.go .any ops (fuel+1) t listed []=i::Region.linearise.go .any ops fuel t' (listed.setIfInBounds i true) []:=by
 simp only [Region.linearise.go]
 change (_∧(match (Region.ready .any ops listed)[t%(Region.ready .any ops listed).length]? with
   | some i=>Region.linearise.go .any ops fuel (t / (Region.ready .any ops listed).length) (listed.setIfInBounds i true) [i]
   | none=>[].reverse)=[])∨∃ i∈Region.ready .any ops listed,∃ t',(match (Region.ready .any ops listed)[t%(Region.ready .any ops listed).length]? with
   | some i=>Region.linearise.go .any ops fuel (t / (Region.ready .any ops listed).length) (listed.setIfInBounds i true) [i]
   | none=>[].reverse)=_
 cases hi:(Region.ready .any ops listed)[t%(Region.ready .any ops listed).length]? with
 | none =>
  left
  refine ⟨?_,rfl⟩;cases hr:Region.ready .any ops listed with
  | nil=>rfl
  | cons x xs =>
   rw [hr] at hi;have hlt:t%(x::xs).length<(x::xs).length:=fC _ zi;simp at hi
   simp at hlt
   omega
 | some i =>
  right
  refine ⟨i,List.mem_of_getElem? hi,t / (Region.ready .any ops listed).length,?_⟩;simp only [];rw [linearise_go_acc,List.reverse_singleton,List.singleton_append]
theorem JR {fuel t:Nat} {listed:Array Bool} (h:Region.ready .any ops listed=[]):Region.linearise.go .any ops (fuel+1) t listed []=[]:=by
 rcases go_step (ops:=ops) fuel t listed with ⟨-, h2⟩|⟨i,hi, -⟩
 ·exact h2
 ·rw [h] at hi;cases hi
theorem zu {x y:Nat}:∀ (fuel t:Nat) (listed:Array Bool),listed.getD x false=true→∃ t',Region.linearise.go .any ops fuel t listed []=Region.linearise.go .any (oh x y ops) fuel t' listed []
 | 0,t,listed,_=>⟨t,rfl⟩
 | fuel+1,t,listed,hx=>by
  rcases go_step (ops:=ops) fuel t listed with ⟨h1,h2⟩|⟨i,hi,t',h⟩
  ·refine ⟨0,?_⟩;rw [h2,JR];cases hr:Region.ready .any (oh x y ops) listed with
   | nil=>rfl
   | cons i l =>
    have:=Jb (x:=x) (y:=y) (i:=i) (by rw [hr];exact List.mem_cons_self);rw [h1] at this;cases this
  ·obtain ⟨t2,h2⟩:=zu fuel t' (listed.setIfInBounds i true) (getD_set_true hx);obtain ⟨t3,h3⟩:=yj (fuel:=fuel) (tO (y:=y) hi fun _=>hx) t2;exact ⟨t3,by rw [h,h2,h3]⟩
theorem Uy {x y:Nat} (hxy:x≠y):∀ (fuel t:Nat) (listed:Array Bool),
  (∃ t',Region.linearise.go .any ops fuel t listed []=Region.linearise.go .any (oh x y ops) fuel t' listed []) ∨
  (∃ t',Region.linearise.go .any ops fuel t listed []=Region.linearise.go .any (oh y x ops) fuel t' listed [])
 | 0,t,listed=>.inl ⟨t,rfl⟩
 | fuel+1,t,listed=>by
  rcases go_step (ops:=ops) fuel t listed with ⟨h1,h2⟩|⟨i,hi,t',h⟩
  ·refine .inl ⟨0,?_⟩;rw [h2,JR];cases hr:Region.ready .any (oh x y ops) listed with
   | nil=>rfl
   | cons i l =>
    have:=Jb (x:=x) (y:=y) (i:=i) (by rw [hr];exact List.mem_cons_self);rw [h1] at this;cases this
  ·have hset:∀ j,i=j→(listed.setIfInBounds i true).getD j false=true:=fun j hj=>by
    subst hj;have:=(mem_ready.1 hi).1
    rcases aO i listed.size with h'|h'
    ·simp [h']
    ·simp [bZ h'] at this
   by_cases hix:i=x
   ·obtain ⟨t2,h2⟩:=zu (ops:=ops) (x:=x) (y:=y) fuel t' _ (hset x hix);obtain ⟨t3,h3⟩:=yj (fuel:=fuel) (tO (x:=x) (y:=y) hi fun e=>absurd (hix.symm.trans e) hxy) t2;exact .inl ⟨t3,by rw [h,h2,h3]⟩
   ·by_cases hiy:i=y
    ·obtain ⟨t2,h2⟩:=zu (ops:=ops) (x:=y) (y:=x) fuel t' _ (hset y hiy);obtain ⟨t3,h3⟩:=yj (fuel:=fuel) (tO (x:=y) (y:=x) hi fun e=>absurd e hix) t2;exact .inr ⟨t3,by rw [h,h2,h3]⟩
    ·rcases Uy hxy fuel t' (listed.setIfInBounds i true) with ⟨t2,h2⟩|⟨t2,h2⟩
     ·obtain ⟨t3,h3⟩:=yj (fuel:=fuel) (tO (x:=x) (y:=y) hi fun e=>absurd e hiy) t2;exact .inl ⟨t3,by rw [h,h2,h3]⟩
     ·obtain ⟨t3,h3⟩:=yj (fuel:=fuel) (tO (x:=y) (y:=x) hi fun e=>absurd e hix) t2;exact .inr ⟨t3,by rw [h,h2,h3]⟩
structure Reg (P:Program) (ops:Array Oper) (Q:Exit→Act→World→Prop) (a:Act) (w:World):Prop where
 out:∀ t,wpOps P ops Q (Region.linearise .any ops t) a w
theorem ZA {id:Nat} {a:Act} {w:World} (hm:P.follows .mixedOrders=true) (h:Reg P ops Q a w.drew):(Code.region id ops true).wp P Q a w :=
 wp_region_draw fun t=>by
  simp only [Region.schedule,hm,Bool.true_or,if_true];exact h.out t
theorem Wz {a:Act} {w:World} (x y:Nat) (hxy:x≠y) (h1:Reg P (oh x y ops) Q a w) (h2:Reg P (oh y x ops) Q a w):Reg P ops Q a w:=⟨fun t=>by
 unfold Region.linearise
 rcases Uy (ops:=ops) hxy ops.size t (Array.replicate ops.size false) with ⟨t',h⟩|⟨t',h⟩
 ·rw [h];have:=h1.out t';unfold Region.linearise at this;rw [FN] at this;exact wS x y _ _ _ this
 ·rw [h];have:=h2.out t';unfold Region.linearise at this;rw [FN] at this;exact wS y x _ _ _ this⟩
def yX (l:List Nat) (ops:Array Oper):Bool:=(dz ops.size).all fun i=>match ops[i]? with
 | some o=>o.after.all (fun e=> !Region.binds .any e || (decide (l.idxOf e.on<l.idxOf i)&&decide (e.on<ops.size)))
 | none=>true
theorem Z4 {l:List Nat} (ho:yX l ops=true):Led ops:=fun listed hsz hr i hi=>by
 have key:∀ n i,l.idxOf i=n→i<ops.size→listed.getD i true=true:=by
  intro n
  induction n using gL with
  | _ n ih =>
   intro i hn hi;cases hl:listed.getD i true with
   | true=>rfl
   | false =>
    exfalso
    have ho':ops[i]? =some ops[i]:=by simp [hi]
    have hmem:i∈Region.ready .any ops listed:=mem_ready.2 ⟨hl,ops[i],ho',fun e he hb=>by
     unfold yX at ho;have h1:=List.all_eq_true.1 ho i (List.mem_range.2 hi);simp only [ho'] at h1;have h2:=Array.all_eq_true_iff_forall_mem.1 h1 e he;simp only [hb,Bool.not_true,Bool.false_or,aK,decide_eq_true_eq] at h2;have h3:=ih _ zo e.on rfl h2.2;have:e.on<listed.size:=by omega
     simpa [this] using h3⟩
    rw [hr] at hmem;cases hmem
 exact key _ i rfl hi
def U5 (ops:Array Oper) (is:List (K × Nat)):Bool :=
 Region.noSelect ops&&yX (is.map (·.2)) ops&&jD ops is&&decide (is.map (·.2)).Nodup&&decide (is.length≤ops.size)&&(dz ops.size).all (fun i=>(is.map (·.2)).contains i)
theorem Ja {a:Act} {w:World} (is:List (K × Nat)) (hc:U5 ops is=true) (hal:rD P ops is)
  (hQ:∀ c (a s:Act) w,s.defers=a.defers→Q (.panic c) a w→Q (.panic c) s w)
  (h:walk P ops Q w.heap.size is [] a w):Reg P ops Q a w:=⟨fun t=>by
 unfold U5 at hc;simp only [aK,decide_eq_true_eq] at hc;obtain ⟨⟨⟨⟨⟨h1,h2⟩,h3⟩,h4⟩,h5⟩,h6⟩:=hc;unfold Region.linearise;refine wpAny_sound _ _ _ _ _ ?_;refine Ia.BS (eZ:=fun w w'=>Below w.heap.size w w') h1 (Z4 h2) hQ w.heap.size an5 ops.size is [] [] [] _ a a w ?_ ?_ h3 h4 zi zi hal ?_ (mO _ _ _ _ h)
 ·rw [qI];exact h5
 ·refine ⟨by simp,fun i hi=>?_,fun j o hj hl=>?_,rfl,rfl,fun t _ _=>rfl,by simp,by simp,by simp,by simp⟩
  ·have hmem:i∈is.map (·.2):=by simpa using List.all_eq_true.1 h6 i (List.mem_range.2 hi)
   simp [hi]
   simpa using hmem
  ·have hj':=(Array.getElem?_eq_some_iff.1 hj).1;simp [hj'] at hl
 ·exact ⟨by simp,by simp,by simp,by simp,aD _⟩⟩
end Go.SW
namespace Go.SW
open Go Go.RowKit
variable {P:Program} {ops:Array Oper} {Q:Exit→Act→World→Prop}
theorem FM {x y i:Nat} {o:Oper} (h:ops[i]? =some o):∃ o',(oh x y ops)[i]? =some o'∧o'.dst=o.dst∧o'.op=o.op∧o'.guard=o.guard∧(∀ (a:Act) (w:World) K R,o.wp P a w K R→o'.wp P a w K R)∧(∀ f,Region.wanted o' f=Region.wanted o f)∧(∀ ρ,execOp ρ o'=execOp ρ o)∧∀ (a:Act) (w:World),Oper.asks P o a w→Oper.asks P o' a w:=by
 refine ⟨_,by rw [q8,h];rfl,?_,?_,?_,?_,?_,?_,?_⟩
 all_goals split<;>first|rfl|exact fun _ _ _ _ h=>h|exact fun _=>rfl|exact fun _ _ h=>h
theorem Am (x y:Nat):∀ (l:List Nat) (a:Act) (w:World),wpOps P ops Q l a w→wpOps P (oh x y ops) Q l a w
 | [],_,_,h=>h
 | i::l,a,w,h=>by
  have ih:=Am x y l;unfold wpOps at h ⊢;have hy:yielded (oh x y ops) a.tmps=yielded ops a.tmps:=funext fun g=>sF x y _ g;rw [hy];cases ho:ops[i]? with
  | none =>
   rw [q8,ho,Option.map_none];simp only [ho] at h ⊢;exact ih _ _ h
  | some o =>
   obtain ⟨o',h1,h2,h3,h4,h5,h6,h7,h8⟩:=FM (P:=P) (x:=x) (y:=y) ho;rw [h1];simp only [ho,h6,h2] at h ⊢;split at h
   ·rename_i hw;rw [if_pos hw]
    rcases h with h|h
    ·exact .inl (h5 _ _ _ _ (Oper.wp_mono ih h))
    ·exact .inr ⟨h8 _ _ h.1,h.2⟩
   ·rename_i hw;rw [if_neg hw];exact ih _ _ h
theorem yP (x y N:Nat):∀ (is:List (K × Nat)) (A:List Nat) (a:Act) (w:World),walk P ops Q N is A a w→walk P (oh x y ops) Q N is A a w
 | [],_,_,_,h=>h
 | (k,i)::is,A,a,w,h=>by
  have ih:=yP x y N is;unfold walk at h ⊢;have hy:yielded (oh x y ops) a.tmps=yielded ops a.tmps:=funext fun g=>sF x y _ g;rw [hy];cases ho:ops[i]? with
  | none=>rw [ho] at h;exact h.elim
  | some o =>
   obtain ⟨o',h1,h2,h3,h4,h5,h6,h7,h8⟩:=FM (P:=P) (x:=x) (y:=y) ho;rw [ho] at h;rw [h1];cases k with
   | pure =>
    simp only [h6,h7,h2] at h ⊢;split at h
    ·rename_i hw;rw [if_pos hw];obtain ⟨v,k1,k2⟩:=h;exact ⟨v,k1,ih _ _ _ k2⟩
    ·rename_i hw;rw [if_neg hw];exact ih _ _ _ h
   | read =>
    simp only [h6,h7,h2] at h ⊢;split at h
    ·rename_i hw;rw [if_pos hw];obtain ⟨v,k1,k2⟩:=h;exact ⟨v,k1,ih _ _ _ k2⟩
    ·rename_i hw;rw [if_neg hw];exact ih _ _ _ h
   | alloc cs T =>
    simp only [h2] at h ⊢;exact fun b w' k1 k2 k3 k4 k5=>ih _ _ _ (h b w' k1 k2 k3 k4 k5)
   | ext =>
    simp only [h6,h2] at h ⊢;split at h
    ·rename_i hw;rw [if_pos hw];exact fun w' k1=>h5 _ _ _ _ (Oper.wp_mono (fun a' w'' k=>⟨k.1,ih _ _ _ k.2⟩) (h w' k1))
    ·rename_i hw;rw [if_neg hw];exact ih _ _ _ h
   | fin =>
    exact fun w' k1=>Am x y _ _ _ (h w' k1)
inductive St|one (k:K) (i:Nat)|two (i j:Nat)
variable {o:Oper} {i:Nat} {is:List St} {a:Act} {w:World} {N:Nat} {A:List Nat}
end Go.SW
namespace Go.Proofs.dH
open Go Go.RowKit Go.SW Go.Num Go.Mem Go.Proofs Go.gD
def Li (a b:Int × Int):(Int × Int) × Int:=if okB [a,b] then gT (a.1 - b.2) (a.2 - b.1) else ((0,0),30)
theorem Yd (x y z t:Int) (h0:okB [(x,y),(z,t)]=true) (b c:Nat) (w:World) (h:aA w b #[Z I x,Z I y] 40) (k:aA w c #[Z I z,Z I t] 40) :
  Calls Tryz.prog 129 #[aB (some ⟨b,0,none⟩),aB (some ⟨c,0,none⟩)] w (fun e w'=>e= aj (d9 (gT (x - t) (y - z)))∧Below w.heap.size w w'):=by
 have h0':iG x y=true∧iG z t=true:=by simpa [okB] using h0
 obtain ⟨hk1,hk2,hk3⟩: -1000000000000000000≤x∧x≤y∧y≤1000000000000000000:=by simpa [iG] using h0'.1
 obtain ⟨hk4,hk5,hk6⟩: -1000000000000000000≤z∧z≤t∧t≤1000000000000000000:=by simpa [iG] using h0'.2
 have H:=zh (fun W=>jK (x - t) (y - z) W);generalize gT (x - t) (y - z)=m at *;obtain ⟨⟨m1,m2⟩,m3⟩:=m;unfold d9 at *;simp only at *;have cb:=h.cell;have lb:=h.lt;have cc:=k.cell;have lc:=k.lt;clear h k h0 h0';go_enter Tryz.func129,Tryz.ntmps129
 go_wp2_with fail
 refine (H.out _).mono ?_;rintro e w1 ⟨rfl,hb1⟩;have hx:=aA.later (aA.new w #[Z I 0,Z I 0] 40) hb1;have cx:=hx.cell;have fx:=hx.free;have lx:=hx.lt;have hw:=Bt (show Below w.heap.size w (w.alloc (.cells #[Z I 0,Z I 0] 40)) from aF) hb1;go_wp2_with fail
 refine bH rfl rfl bf Tryz.underlying40 rfl zk ?_;exact ⟨rfl,aF⟩
theorem Dp (x y z t:Int) (w:World):Calls Tryz.prog 50 #[au #[Z I x,Z I y],au #[Z I z,Z I t]] w (fun e w'=>e= aj (d9 (Li (x,y) (z,t)))∧Below w.heap.size w w'):=by
 have H:Hid (∀ W b c d,aA W b #[Z I x,Z I y] 40→aA W c #[Z I z,Z I t] 40→aA W d #[Z I x,Z I y,Z I z,Z I t] 40→Calls Tryz.prog 97 #[.func (.func 129) #[] #[aB (some ⟨b,0,none⟩),aB (some ⟨c,0,none⟩)],ah (some ⟨d,0,none⟩) 2 2] W (fun e w'=>e= aj (d9 (Li (x,y) (z,t)))∧Below W.heap.size W w')):=zh fun W b c d h1 h2 h3 =>
  nK 129 #[aB (some ⟨b,0,none⟩),aB (some ⟨c,0,none⟩)] _ _ _ _ W (wY.two h3) (fun h W' hW'=>Yd x y z t h b c W' (h1.later hW') (h2.later hW')) (fun args W=>by rfl)
 generalize Li (x,y) (z,t)=m at *;obtain ⟨⟨m1,m2⟩,m3⟩:=m;unfold d9 at *;simp only at *;go_enter Tryz.func50,Tryz.ntmps50
 go_wp2_with fail
 obtain ⟨wx,EW,hz,X,Y,R,eZ⟩:=al4 w #[Z I x,Z I y] 40 #[Z I z,Z I t] 40 #[Z I 0,Z I 0] 40 #[Z I x,Z I y,Z I z,Z I t] 40;rw [EW];clear EW;have HB:=zh hz;clear hz;refine (H.out _ _ _ _ X.out Y.out eZ.out).mono ?_;rintro e w1 ⟨rfl,hb1⟩;replace R:=R.bl hb1;replace HB:=zh (Bt HB.out hb1);clear hb1 H;have hx:=R.out;have cx:=hx.cell;have fx:=hx.free;have lx:=hx.lt;have hw:=HB.out;go_wp2_with fail
 refine bH rfl rfl bf Tryz.underlying40 rfl zk ?_;exact ⟨rfl,aF⟩
end Go.Proofs.dH
namespace Go.Num
def YJ (k:Nat):Nat→Nat→Nat
 | 0,_=>0
 | f+1,n=>if (2*YJ k f (n / 2^k)+1)^k≤n then 2*YJ k f (n / 2^k)+1 else 2*YJ k f (n / 2^k)
def fV (k n:Nat):Nat:=YJ k (n.log2 / k+1) n
theorem Jy {k:Nat} (hk:0<k):∀ f n,n<2^(k*f)→YJ k f n^k≤n∧n<(YJ k f n+1)^k
 | 0,n,h=>by
  have:n=0:=by simpa using h
  subst this;refine ⟨?_,?_⟩
  ·show 0^k≤0
   rw [Nat.zero_pow hk];omega
  ·show 0<(0+1)^k
   simp
 | f+1,n,h=>by
  have hp:0<2^k:=Nat.pow_pos zo
  have h1:n / 2^k<2^(k*f):=by
   rw [dw hp,← fQ];rw [aX] at h
   simpa using h
  obtain ⟨a,b⟩:=Jy hk f _ h1;unfold YJ;generalize YJ k f (n / 2^k)=r at *
  have e:(2*r)^k≤n:=by
   rw [Nat.mul_pow];have:=aR (2^k) a;have:=Nat.mul_div_le n (2^k);omega
  have e2:n<(2*r+1+1)^k:=by
   have h2:n<2^k*(n / 2^k+1):=by
    have:=Nat.lt_mul_div_succ n hp;exact this
   have h3:=aR (2^k) b;rw [show 2*r+1+1=2*(r+1) by omega,Nat.mul_pow];exact aI h2 h3
  split
  ·rename_i h4;exact ⟨h4,e2⟩
  ·rename_i h4;exact ⟨e,by omega⟩
theorem lK {k:Nat} (hk:0<k) (n:Nat):fV k n^k≤n∧n<(fV k n+1)^k:=by
 refine Jy hk _ _ ?_;refine aI (Nat.lt_log2_self (n:=n)) (bI zo ?_);have:=Nat.lt_mul_div_succ n.log2 hk;omega
theorem Jz {k n r:Nat} (hk:0<k) (h:n<(r+1)^k):fV k n≤r:=by
 obtain ⟨a,b⟩:=lK hk n
 have c:fV k n<r+1:=by
  refine Nat.lt_of_not_le fun h=>?_;have:=Nat.pow_le_pow_left h k;omega
 omega
theorem ug {k n r:Nat} (hk:0<k) (h:r^k≤n):r≤fV k n:=by
 obtain ⟨a,b⟩:=lK hk n
 have c:r<fV k n+1:=by
  refine Nat.lt_of_not_le fun h=>?_;have:=Nat.pow_le_pow_left h k;omega
 omega
theorem am5 (r x k:Nat):r^k*x+r*x^k≤x^(k+1)+r^(k+1):=by
 rw [bN,bN]
 rcases Nat.le_total r x with h|h
 ·have hk:=Nat.pow_le_pow_left h k;obtain ⟨d,rfl⟩:=Nat.exists_eq_add_of_le h;obtain ⟨e,he⟩:=Nat.exists_eq_add_of_le hk;rw [he];generalize r^k=a;have:(a+e)*(r+d)+a*r=a*(r+d)+r*(a+e)+e*d:=by grind
  omega
 ·have hk:=Nat.pow_le_pow_left h k;obtain ⟨d,rfl⟩:=Nat.exists_eq_add_of_le h;obtain ⟨e,he⟩:=Nat.exists_eq_add_of_le hk;rw [he];generalize x^k=a;have:a*x+(a+e)*(x+d)=(a+e)*x+(x+d)*a+e*d:=by grind
  omega
theorem means (r x:Nat):∀ k,(k+1)*r*x^k≤k*x^(k+1)+r^(k+1)
 | 0=>by simp
 | k+1=>by
  have ih:=aZ x (means r x k);have h:=am5 r x (k+1);have e1:(k+1+1)*r*x^(k+1)=(k+1)*r*x^k*x+r*x^(k+1):=by rw [bN];grind
  have e2:(k+1)*x^(k+1+1)=k*x^(k+1)*x+x^(k+1+1):=by rw [bN x (k+1)];grind
  have e3:(k*x^(k+1)+r^(k+1))*x=k*x^(k+1)*x+r^(k+1)*x:=by rw [dM]
  omega
def L6 (k m x:Nat):Nat:=(x*(k - 1)+m / x^(k - 1)) / k
theorem Xa {k m x:Nat} (hk:0<k) (hx:0<x):fV k m≤L6 k m x:=by
 obtain ⟨a, -⟩:=lK hk m;generalize fV k m=r at *;obtain ⟨j,rfl⟩:=Nat.exists_eq_add_of_le' hk;unfold L6;rw [dS];rw [Nat.le_div_iff_mul_le zo];replace a:r^(j+1)≤m:=a
 show r*(j+1)≤_
 have hm:=means r x j;have hp:0<x^j:=Nat.pow_pos hx
 have h1:r*(j+1) - x*j≤m / x^j:=by
  rw [Nat.le_div_iff_mul_le hp,Nat.sub_mul];have e1:(j+1)*r*x^j=r*(j+1)*x^j:=by rw [aL (j+1)]
  have e2:j*x^(j+1)=x*j*x^j:=by rw [bN];grind
  omega
 omega
theorem TL {k m x:Nat} (hk:0<k) (hx:0<x) (h1:fV k m≤x) (h2:x≤L6 k m x):x=fV k m:=by
 obtain ⟨j,rfl⟩:=Nat.exists_eq_add_of_le' hk;unfold L6 at h2;rw [dS] at h2;rw [Nat.le_div_iff_mul_le zo] at h2;have hp:0<x^j:=Nat.pow_pos hx;have h3:x≤m / x^j:=by rw [Nat.mul_succ] at h2;omega
 rw [Nat.le_div_iff_mul_le hp] at h3;have h4:x^(j+1)≤m:=by rw [bN,aL];exact h3
 have:=ug hk h4;omega
theorem LY {k m l:Nat} (hk:0<k) (h:m<10^l):fV k m≤10^(l / k+1):=by
 refine Jz hk ?_;have h1:(10^(l / k+1))^k≤(10^(l / k+1)+1)^k:=Nat.pow_le_pow_left zo k;rw [← Nat.pow_mul] at h1
 have h2:10^l≤10^((l / k+1)*k):=bI zo (by
  have:=Nat.lt_mul_div_succ l hk;rw [aL];omega)
 omega
end Go.Num
namespace Go.Num
def j5 (n p q:Nat):Nat:=n^p*10^(12*q) / 10^(12*p)
def yV (n p q:Nat):Nat:=fV q (j5 n p q)
def Ql (n p q:Nat):Bool:=decide (yV n p q^q*10^(12*p)=n^p*10^(12*q))
def phi (n p q:Nat):Nat:=if Ql n p q then yV n p q else yV n p q+1
theorem rG (k:Nat):0<10^k:=Nat.pow_pos zo
theorem Jg {n p q:Nat} (h:p≤q):j5 n p q=n^p*10^(12*(q - p)):=by
 unfold j5;rw [show 12*q=12*(q - p)+12*p by omega,fQ,← dx,Nat.mul_div_cancel _ (rG _)]
theorem Jh {n p q:Nat} (h:q≤p):j5 n p q=n^p / 10^(12*(p - q)):=by
 unfold j5;rw [show 12*p=12*(p - q)+12*q by omega,fQ,Nat.mul_div_mul_right _ _ (rG _)]
theorem Ub {n p q x:Nat}:x≤j5 n p q↔x*10^(12*p)≤n^p*10^(12*q):=by
 unfold j5;exact Nat.le_div_iff_mul_le (rG _)
theorem Z5 {n p q r:Nat} (hq:0<q) (h:r^q*10^(12*p)≤n^p*10^(12*q)):r≤yV n p q:=ug hq (Ub.2 h)
theorem Wn {B k:Nat} (h:B=10^k) (b:Nat):10^(k+b)=B*10^b:=by rw [h,fQ]
theorem WJ {n p q:Nat} (hq:0<q) (p36:p≤36) (Ot:q≤12) (h:10^600≤n^p):10^18<yV n p q:=by
 obtain ⟨B,eB⟩:∃ B,B=10^600:=⟨_,rfl⟩;rw [← eB] at h;refine Z5 hq ?_
 have h1:(10^18+1)^q≤2^q*10^(18*q):=by
  rw [Nat.pow_mul,← Nat.mul_pow];exact Nat.pow_le_pow_left zd q
 have h2:2^q≤2^12:=bI zo Ot;have h3:2^12≤10^4:=by decide
 have h4:(10^18+1)^q≤10^(4+18*q):=by
  rw [fQ];exact ay h1 (aZ _ (ay h2 h3))
 calc (10^18+1)^q*10^(12*p)≤10^(4+18*q)*10^(12*p):=aZ _ h4
  _=10^(4+18*q+12*p):=(fQ ..).symm
  _≤10^(600+12*q):=bI zo zo
  _=B*10^(12*q):=Wn eB _
  _≤n^p*10^(12*q):=aZ _ h
end Go.Num
namespace Go.Num
theorem ZG {n p q:Nat} (h:p≤q):Ql n p q=decide (yV n p q^q=j5 n p q):=by
 unfold Ql;rw [Jg h,show 12*q=12*(q - p)+12*p by omega,fQ 10,← dx];exact decide_eq_decide.2 ⟨fun e=>Nat.eq_of_mul_eq_mul_right (rG _) e,fun e=>by rw [e]⟩
theorem ZH {n p q:Nat} (hq:0<q) (h:q≤p):Ql n p q=(decide (yV n p q^q=j5 n p q)&&decide (n^p%10^(12*(p - q))=0)):=by
 have hs:=(lK hq (j5 n p q)).1;have hd:=dF (n^p) (10^(12*(p - q)));have hp:=rG (12*(p - q));unfold Ql;rw [Bool.and_eq_decide];refine decide_eq_decide.2 ?_;rw [show 12*p=12*(p - q)+12*q by omega,fQ 10,← dx];rw [← Jh h] at hd
 change yV n p q^q≤j5 n p q at hs
 simp only [decide_eq_true_eq]
 constructor
 ·intro e;have e:=Nat.eq_of_mul_eq_mul_right (rG _) e
  have h1:yV n p q^q*10^(12*(p - q))≤10^(12*(p - q))*j5 n p q:=by
   rw [aL];exact aR _ hs
  refine ⟨?_,by omega⟩;refine Nat.eq_of_mul_eq_mul_right hp ?_;rw [aL (j5 n p q)];omega
 ·rintro ⟨e1,e2⟩;rw [e1,← hd,e2,fJ,aL (j5 n p q)]
theorem Ve {q x:Nat} (hq:0<q) (Ot:q≤12) (h:10^600≤x):10^18<fV q x:=by
 refine ug hq (ay ?_ h);have h1:(10^18+1)^q≤(10^18+1)^12:=bI zo Ot;have h2:(10^18+1)^12≤10^600:=by decide+kernel
 exact ay h1 h2
def CY (n p q:Nat) (up:Bool):Int × Int:=if yV n p q≤10^18 then (((if up then phi n p q else yV n p q:Nat):Int),0) else (0,6)
theorem XE {n p q:Nat} {up:Bool} (h:yV n p q≤10^18):CY n p q up=(((yV n p q:Nat):Int)+(if (up&& !(Ql n p q)) then 1 else 0),0):=by
 unfold CY phi;rw [if_pos h];cases up<;>cases Ql n p q<;>simp
end Go.Num
namespace Go.Num
def mJ (l:List Nat):Nat:=(l.map fun x=>x^2).sum
def nlo (l:List Nat):Nat:=fV 2 (mJ l)
def nhi (l:List Nat):Nat:=if nlo l^2=mJ l then nlo l else nlo l+1
theorem SQ (x:Nat) (l:List Nat):mJ (x::l)=x^2+mJ l:=rfl
theorem vX (a b:List Nat):mJ (a++b)=mJ a+mJ b:=by
 unfold mJ;rw [List.map_append,List.sum_append]
theorem Jr (l:List Nat):nlo l^2≤mJ l∧mJ l<(nlo l+1)^2:=lK zo _
theorem Z6 {l:List Nat} {r:Nat} (h:r^2≤mJ l):r≤nlo l:=ug zo h
end Go.Num
namespace Go.Num
def vG (b:Int × Int):Nat:=(max b.1 (max (-b.2) 0)).toNat
def vN (b:Int × Int):Nat:=(max (-b.1) b.2).toNat
def sN (l:List Nat) (up:Bool):Int × Int:=if nlo l≤10^18 then (((if up then nhi l else nlo l:Nat):Int),0) else (0,6)
theorem WY {l:List Nat} {up:Bool} (h:nlo l≤10^18):sN l up=(((nlo l:Nat):Int)+(if (up&& !(decide (nlo l^2=mJ l))) then 1 else 0),0):=by
 unfold sN nhi;rw [if_pos h]
 by_cases e:nlo l^2=mJ l<;>cases up<;>simp [e]
end Go.Num
namespace Go.gD
open Go.Num
def rN (n:Nat):Rat:=((n:Int):Rat) / ((1000000000000:Int):Rat)
theorem am7 (n:Nat):rN n=mkRat (n:Int) 1000000000000:=by
 unfold rN;rw [Rat.mkRat_eq_div];rfl
theorem Jc (n:Nat):(rN n).num=((n / n.gcd 1000000000000:Nat):Int)∧(rN n).den=1000000000000 / n.gcd 1000000000000:=by
 rw [am7];obtain ⟨h1,h2⟩:=tY (n:Int) (d:=1000000000000) zo;rw [h1,h2,Int.natAbs_natCast];refine ⟨?_,rfl⟩;unfold Mem.iV;rw [if_neg zi]
theorem uP {n k:Nat} (h:n≤10^18+1) (hk:k≤12):xO (rN n^k)=true:=by
 obtain ⟨h1,h2⟩:=Jc n;have e1:(rN n^k).num=((n / n.gcd 1000000000000:Nat):Int)^k:=by rw [Rat.num_pow,h1]
 have e2:(rN n^k).den=(1000000000000 / n.gcd 1000000000000)^k:=by rw [Rat.den_pow,h2]
 unfold xO kI;rw [e1,e2,← Int.natCast_pow,Int.natAbs_natCast];have a:n / n.gcd 1000000000000≤10^19:=ay (Nat.div_le_self _ _) (ay h (by decide+kernel));have b:1000000000000 / n.gcd 1000000000000≤10^19:=ay (Nat.div_le_self _ _) (by decide+kernel);have c:((10:Nat)^19)^12<jZ 600:=by decide+kernel
 have p:∀ x,x≤10^19→x^k<jZ 600:=fun x hx=>gN (ay (Nat.pow_le_pow_left hx k) (bI zd hk)) c;rw [decide_eq_true (p _ a),decide_eq_true (p _ b)];rfl
end Go.gD
namespace Go.Num
end Go.Num
namespace Go.Proofs.power
open Go Go.RowKit Go.SW Go.Num Go.Mem Go.Proofs Go.Proofs.dH
def eok (p q:Int):Bool:=decide (1≤p)&&(decide (p≤36)&&(decide (1≤q)&&decide (q≤12)))
theorem nO (p q:Int) (w:World):Calls Tryz.prog 251 #[au #[Z I p,Z I q]] w (fun e w'=>e= aj (ak (eok p q))∧Below w.heap.size w w'):=by
 unfold eok;cases h1:decide (1≤p)<;>cases h2:decide (p≤36)<;>cases h3:decide (1≤q)<;>cases h4:decide (q≤12)
 all_goals
  go_enter Tryz.func251,Tryz.ntmps251
  go_wp2_with fail
  go_ret
  exact ⟨rfl,aF⟩
def Qu (a b:Int × Int):Value:=if a.2≠0 then aG #[au #[Z I 0,Z I 0],Z I a.2] else if b.2≠0 then aG #[au #[Z I 0,Z I 0],Z I b.2] else
 if iG a.1 b.1 then aG #[au #[Z I a.1,Z I b.1],Z I 0] else aG #[au #[Z I 0,Z I 0],Z I 6]
theorem LK (lo hi:Int) (f:Value) (F:FuncId) (caps free:Array Value) (a b:Int × Int) (w:World) (hf:f= .func (.func F) caps free)
  (h1:∀ W,Below w.heap.size w W→Calls Tryz.prog F (caps++#[Z I lo,ak false]) W (fun e w'=>e= aj (aG #[Z I a.1,Z I a.2])∧Below W.heap.size W w'))
  (h2:∀ W,Below w.heap.size w W→Calls Tryz.prog F (caps++#[Z I hi,ak true]) W (fun e w'=>e= aj (aG #[Z I b.1,Z I b.2])∧Below W.heap.size W w')) (hfr:free=#[])
  (hen:∀ args W,(callFunc F args).run Tryz.prog W= .ok (.enter F args) W) :
  Calls Tryz.prog 252 #[Z I lo,Z I hi,f] w (fun e w'=>e= aj (Qu a b)∧Below w.heap.size w w'):=by
 subst hf hfr;obtain ⟨a1,a2⟩:=a;obtain ⟨b1,b2⟩:=b;have H1:=zh h1;have H2:=zh h2;have HO:=zh (fun W=>oC a1 b1 W);unfold Qu;simp only;clear h1 h2;go_enter Tryz.func252,Tryz.ntmps252
 go_wp2_with fail
 refine (H1.out _ aF).mono ?_;rintro e w1 ⟨rfl,hb1⟩;have hx:=aA.later (aA.new w #[Z I 0,Z I 0] 40) hb1;have HX:=zh hx;have HB1:=zh (Bt (show Below w.heap.size w (w.alloc (.cells #[Z I 0,Z I 0] 40)) from aF) hb1);clear hx hb1
 by_cases ha:a2=0
 ·subst ha;go_wp2_with fail
  refine (H2.out _ HB1.out).mono ?_;rintro e w2 ⟨rfl,hb2⟩;replace HX:=zh (HX.out.later hb2);have HB2:=zh (Bt HB1.out hb2);clear hb2 HB1
  by_cases hb:b2=0
  ·subst hb;go_wp2_with fail
   refine (HO.out _).mono ?_;rintro e w3 ⟨rfl,hb3⟩;replace HX:=zh (HX.out.later hb3);have HB3:=zh (Bt HB2.out hb3);clear hb3 HB2;have hx:=HX.out;have cx:=hx.cell;have fx:=hx.free;have lx:=hx.lt;have hw:=HB3.out;cases hk:iG a1 b1
   all_goals
    go_wp2_with fail
    refine bH rfl rfl bf Tryz.underlying40 rfl zk ?_;exact ⟨by first|rfl|(rw [if_neg (fun h=>h rfl),if_neg (fun h=>h rfl),hk];rfl),aF⟩
  ·have g:(b2 == 0)=false:=beq_eq_false_iff_ne.2 hb;have hx:=HX.out;have cx:=hx.cell;have fx:=hx.free;have lx:=hx.lt;have hw:=HB2.out;go_wp2_with fail
   refine bH rfl rfl bf Tryz.underlying40 rfl zk ?_;exact ⟨by first|rfl|(rw [if_neg (fun h=>h rfl),if_pos hb];rfl),aF⟩
 ·have g:(a2 == 0)=false:=beq_eq_false_iff_ne.2 ha;have hx:=HX.out;have cx:=hx.cell;have fx:=hx.free;have lx:=hx.lt;have hw:=HB1.out;go_wp2_with fail
  refine bH rfl rfl bf Tryz.underlying40 rfl zk ?_;exact ⟨by first|rfl|(rw [if_pos ha];rfl),aF⟩
end Go.Proofs.power
namespace Go.Proofs
open Go Go.RowKit Go.SW Go.Num Go.Mem Go.gD
def cK {α β:Type} (z:β) (x:α × Int) (f:α→β × Int):β × Int:=if x.2=0 then f x.1 else (z,x.2)
def nZ {α:Type} (x:α):α × Int:=(x,0)
def gB {α:Type} (x:α × Int) (v:α) (k:Int):Prop:=x.2=k∧(k=0→x.1=v)
theorem gB.of {α:Type} {x:α × Int} {v:α} {k:Int} (h:x=(v,k)):gB x v k:=by subst h;exact ⟨rfl,fun _=>rfl⟩
theorem gB.cond_true {α:Type} {a b:α × Int} {v:α} {k:Int} (h:gB (cond true a b) v k):gB a v k:=h
theorem gB.cond_false {α:Type} {a b:α × Int} {v:α} {k:Int} (h:gB (cond false a b) v k):gB b v k:=h
theorem gB.pos {α:Type} {a b:α × Int} {v:α} {k:Int} {p:Prop} [Decidable p] (h:gB (if p then a else b) v k) (hp:p):gB a v k:=by rwa [if_pos hp] at h
theorem gB.neg {α:Type} {a b:α × Int} {v:α} {k:Int} {p:Prop} [Decidable p] (h:gB (if p then a else b) v k) (hp:¬ p):gB b v k:=by rwa [if_neg hp] at h
theorem XY {α β:Type} {z:β} {x:α × Int} {f:α→β × Int} (h:x.2≠0):cK z x f=(z,x.2):=if_neg h
theorem aP {α β:Type} {z:β} {x:α × Int} {f:α→β × Int} {r:β} {k:Int} (h:gB (cK z x f) r k):∃ y k1,x=(y,k1)∧((k1=0∧gB (f y) r k)∨(k1≠0∧k=k1)):=by
 obtain ⟨y,k1⟩:=x;refine ⟨y,k1,rfl,?_⟩
 by_cases h0:k1=0
 ·subst h0;exact .inl ⟨rfl,h⟩
 ·rw [XY (x:=(y,k1)) h0] at h;exact .inr ⟨h0,h.1.symm⟩
theorem kD {α:Type} {x:α × Int} {r:α} {k:Int} (h:gB x r k):∃ y k1,x=(y,k1)∧((k1=0∧gB (nZ y) r k)∨(k1≠0∧k=k1)):=by
 obtain ⟨y,k1⟩:=x;refine ⟨y,k1,rfl,?_⟩
 by_cases h0:k1=0
 ·subst h0;exact .inl ⟨rfl,h⟩
 ·exact .inr ⟨h0,h.1.symm⟩
def Vl (T:Int→Ending) (w:World) (v:Value) (k:Int) (e:Ending) (w':World):Prop:=Below w.heap.size w w'∧((k=0∧e= aj v)∨(k≠0∧e=T k))
def Du (w:World) (v z:Value) (k:Int) (e:Ending) (w':World):Prop:=Below w.heap.size w w'∧((k=0∧e= aj (aG #[v,Z I 0]))∨(k≠0∧e= aj (aG #[z,Z I k])))
end Go.Proofs
