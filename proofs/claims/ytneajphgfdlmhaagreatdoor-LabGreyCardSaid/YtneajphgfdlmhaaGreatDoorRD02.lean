/- Lemmas for the proof. No condition. -/
import Derived.Test.YtneajphgfdlmhaaGreatDoorRB01
import Derived.Test.YtneajphgfdlmhaaGreatDoorRD01
import Derived.Test.YtneajphgfdlmhaaGreatDoorProg
import Derived.ChangeSame
import Derived.ChangeVars
import Derived.Below
set_option linter.unusedVariables false
set_option linter.unusedSimpArgs false
set_option maxRecDepth 100000
set_option maxHeartbeats 16000000
namespace Go.Proofs.lab
open Go Go.RowKit Go.SW Go.Num Go.Mem Go.Proofs Go.jQ Go.Proofs.aQ Go.Proofs.iP
theorem ak9 (n:Int) (up:Bool):Ot n 1 up=n:=by
 unfold Ot;cases up
 ·rw [if_neg zd];exact Int.ediv_one n
 ·rw [if_pos rfl];have: -n / ((1:Nat):Int)= -n:=Int.ediv_one _;omega
theorem Vi {x n:Int} (h:(x*n).natAbs≤1000000000000000000) (up:Bool):pQ x n 1 up=(x*n,true):=by
 unfold pQ;rw [if_neg zo];unfold Bn;have e:(1:Int).natAbs=1:=rfl;rw [e,ak9,if_pos h]
theorem MG {x y n:Int} (hn:n=116∨n=500∨n=200) (h1: -2000000000000≤x) (h2:x≤y) (h3:y≤2000000000000):aQ.yI (x,y) n 1=((x*n,y*n),0):=by
 have b1:(x*n).natAbs≤1000000000000000000:=by rcases hn with rfl|rfl|rfl<;>omega
 have b2:(y*n).natAbs≤1000000000000000000:=by rcases hn with rfl|rfl|rfl<;>omega
 have b3:x*n≤y*n:=by rcases hn with rfl|rfl|rfl<;>omega
 have hb:jF x y=true:=by
  unfold jF;rw [decide_eq_true zo,decide_eq_true zo,decide_eq_true zo];rfl
 have hb2:jF (x*n) (y*n)=true:=by
  unfold jF;rw [decide_eq_true zo,decide_eq_true zo,decide_eq_true zo];rfl
 have q1:=fun up=>Vi b1 up;have q2:=fun up=>Vi b2 up;unfold yI okB Zm;simp only [List.all_cons,List.all_nil,Bool.and_true,hb,if_true];rw [if_neg zo];unfold xH aq3;have l0:∀ up,pQ (Pf (x,y) 0) (MS (n,n) 0) 1 up=(x*n,true):=q1;have l1:∀ up,pQ (Pf (x,y) 1) (MS (n,n) 1) 1 up=(x*n,true):=q1;have l2:∀ up,pQ (Pf (x,y) 2) (MS (n,n) 2) 1 up=(y*n,true):=q2;have l3:∀ up,pQ (Pf (x,y) 3) (MS (n,n) 3) 1 up=(y*n,true):=q2;have e:List.range 4=[0,1,2,3]:=by decide
 rw [e];unfold zw zx;simp only [List.all_cons,List.all_nil,l0,l1,l2,l3,Bool.and_self,if_true,List.foldl_cons,List.foldl_nil];unfold jR;have m1:min (min (min (min (x*n) (x*n)) (x*n)) (y*n)) (y*n)=x*n:=by omega
 have m2:max (max (max (max (x*n) (x*n)) (x*n)) (y*n)) (y*n)=y*n:=by omega
 rw [m1,m2,if_pos hb2]
theorem aw6 {a b c d:Int} (h1:jF a b=true) (h2:jF c d=true) (h3:jF (a - d) (b - c)=true):aQ.Db (a,b) (c,d)=((a - d,b - c),0):=by
 unfold Db okB jR;simp only [List.all_cons,List.all_nil,Bool.and_true,h1,h2,Bool.and_self,if_true];rw [if_pos h3]
def ay2 (L H:Int):(Int × Int) × (Int × Int) × (Int × Int):=((L*116 - 16*1000000000000,H*116 - 16*1000000000000),((L - H)*500,(H - L)*500),((L - H)*200,(H - L)*200))
theorem Cb {x y:Int} (h: -1000000000000000000≤x) (h2:x≤y) (h3:y≤1000000000000000000):jF x y=true:=by
 unfold jF;rw [decide_eq_true h,decide_eq_true h2,decide_eq_true h3];rfl
theorem Xp {t w:light.mD} {L H:Int} (hx:VR t.x w.x=((L,H),0)) (hy:VR t.y w.y=((L,H),0)) (hz:VR t.z w.z=((L,H),0)) (h0:0≤L) (h1:L≤H) (h2:H≤1000000000001):Ld t w=(ay2 L H,0):=by
 unfold Ld aU;rw [hx,hy,hz];simp only [if_true];rw [MG (.inl rfl) zo h1 zo];simp only [if_true];have p:Zr (16*1000000000000)=((16*1000000000000,16*1000000000000),0):=by decide+kernel
 rw [p];simp only [if_true];rw [aw6 (Cb zo zo zo) (Cb zo zo zo) (Cb zo zo zo)];simp only [if_true];rw [aw6 (Cb zo zo zo) (Cb zo zo zo) (Cb zo zo zo)];simp only [if_true];rw [MG (.inr (.inl rfl)) zo zo zo,MG (.inr (.inr rfl)) zo zo zo];simp only [if_true];rfl
theorem IU {x w:Fr} {p s:Rat} (hx:rd x=some (p*s)) (hw:rd w=some p) (hp:p≠0) (h0:0≤s) (h1:s≤1) (hq:Hq 20 s):VR x w=((yg s,yh s),0):=by
 unfold VR aU;have ok:=hq.ok zo
 have e1:Dq x w=(Fr.of s,0):=by
  unfold Dq bin;rw [hx,hw];have e:p*s / p=s:=by grind
  refine (if_neg hp).trans ?_;rw [e];exact if_pos ok
 rw [e1];simp only [if_true];rw [Qk (oQ ok) h0 h1 hq];rfl
theorem Wj {f g h:Fr} {p q r:Rat} (e1:rd f=some p) (e2:rd g=some q) (e3:rd h=some r) (h1:0≤p) (h2:0≤q) (h3:0≤r):light.Al ⟨f,g,h⟩=0:=by
 unfold light.Al light.mD.list JX uK
 have c:∀ {z:Rat},0≤z→0≤og z 0:=fun {z} hz=>by
  unfold og;rw [if_neg (Rat.not_lt.2 hz)];split<;>decide
 simp only [List.all_cons,List.all_nil,e1,e2,e3,Option.isSome_some,Bool.and_self,if_true,decide_eq_true (c h1),decide_eq_true (c h2),decide_eq_true (c h3)]
theorem ak2 {f g h:Fr} {p q r:Rat} (e1:rd f=some p) (e2:rd g=some q) (e3:rd h=some r) (h1:0<p) (h2:0<q) (h3:0<r):light.sZ ⟨f,g,h⟩=0:=by
 unfold light.sZ;rw [if_pos (Wj e1 e2 e3 (Rat.le_of_lt h1) (Rat.le_of_lt h2) (Rat.le_of_lt h3))];unfold light.mD.list uK
 have c:∀ {z:Rat},0<z→og z 0≠0:=fun {z} hz=>by
  unfold og;rw [if_neg (Rat.not_lt.2 (Rat.le_of_lt hz)),if_pos hz]
  decide
 simp only [List.all_cons,List.all_nil,e1,e2,e3,Bool.and_self,if_true,decide_eq_true (c h1),decide_eq_true (c h2),decide_eq_true (c h3)]
theorem yA {x y z u v w:Fr} {a b c s:Rat} (e1:rd x=some (a*s)) (e2:rd y=some (b*s)) (e3:rd z=some (c*s)) (f1:rd u=some a) (f2:rd v=some b) (f3:rd w=some c)
  (ha:0<a) (hb:0<b) (hc:0<c) (h0:0≤s) (h1:s≤1) (hq:Hq 20 s):Bg ⟨x,y,z⟩ ⟨u,v,w⟩=(ay2 (yg s) (yh s),0):=by
 unfold Bg;rw [if_neg (by rw [Wj e1 e2 e3 (Rat.mul_nonneg (Rat.le_of_lt ha) h0) (Rat.mul_nonneg (Rat.le_of_lt hb) h0) (Rat.mul_nonneg (Rat.le_of_lt hc) h0)];decide),if_neg (by rw [ak2 f1 f2 f3 ha hb hc];decide)];have n:∀ {p:Rat},0<p→p≠0:=fun {p} h e=>by rw [e] at h;exact absurd h Rat.lt_irrefl
 exact Xp (IU e1 f1 (n ha) h0 h1 hq) (IU e2 f2 (n hb) h0 h1 hq) (IU e3 f3 (n hc) h0 h1 hq) (ae4 h0) (rG Rat.le_refl h0) (ae6 h1)
theorem VH {s:Rat} (h0:0≤s) (h1:s≤1):(yg s - yh s)*500≤0∧0≤(yh s - yg s)*500∧(yg s - yh s)*200≤0∧0≤(yh s - yg s)*200∧0≤yh s*116 - 16*1000000000000∧yg s*116 - 16*1000000000000≤100*1000000000000:=by
 have:=ae5 h1;have:=aG5 h0;have:=rG (Rat.le_refl (a:=s)) h0;omega
theorem Iy {s t:Rat} (h0:0≤s) (h:s≤t):yg s*116 - 16*1000000000000≤yh t*116 - 16*1000000000000:=by
 have:=rG h h0;omega
theorem ae3:yg 1=1000000000000∧yh 1=1000000000000:=by
 have k:wN<1:=by decide+kernel
 have d:(yc 1).toNat=1000000000000:=by decide+kernel
 have u:(vV 1).toNat=1000000000000:=by decide+kernel
 unfold yg yh;rw [if_pos k,if_pos k,d,u,zH.1,zH.2];exact ⟨rfl,rfl⟩
theorem OD {u v w:Fr} {a b c:Rat} (f1:rd u=some a) (f2:rd v=some b) (f3:rd w=some c) (ha:0<a) (hb:0<b) (hc:0<c) :
  Bg ⟨u,v,w⟩ ⟨u,v,w⟩=(((100000000000000,100000000000000),(0,0),(0,0)),0):=by
 have h:=yA (x:=u) (y:=v) (z:=w) (s:=1) (by rw [Rat.mul_one];exact f1) (by rw [Rat.mul_one];exact f2) (by rw [Rat.mul_one];exact f3) f1 f2 f3 ha hb hc zd zd (Hq.one.mono zo);rw [h,ae3.1,ae3.2];rfl
end Go.Proofs.lab
namespace Go.Proofs.verdigrislaw24
open Go Go.RowKit Go.SW Go.Num Go.Mem Go.Proofs Go.Dec Go.jQ Go.Proofs.lab Go.Proofs.fD
theorem LX {a:Int} (h:0≤a):Hq 4 (q2 (1+a%2000) 1000)∧0<q2 (1+a%2000) 1000:=by
 have e:kL 4=10000:=by decide
 have h1:=Int.emod_nonneg a (show (2000:Int)≠0 by decide);have h2:=Int.emod_lt_of_pos a (show (0:Int)<2000 by decide);refine ⟨⟨1+a%2000,1000,by omega,by omega,by omega,rfl⟩,?_⟩;unfold q2;rw [Rat.div_def];exact Rat.mul_pos (Rat.intCast_pos.2 zo) (by decide+kernel)
theorem aB0 {p q:Rat} {a b:Nat} (hp:Hq a p) (hq:Hq b q) (h:a+b<600):yL (Fr.of p) (Fr.of q)=(Fr.of (p*q),0):=by
 unfold yL bin;rw [oQ (hp.ok zo),oQ (hq.ok zo)];exact if_pos ((hp.mul hq).ok h)
theorem aG6 {p q:Rat} {a b:Nat} (hp:Hq a p) (hq:Hq b q) (h:a<600) (h2:b<600):Ak (Fr.of p) (Fr.of q)=(og p q,0):=by
 unfold Ak;rw [oQ (hp.ok h),oQ (hq.ok h2)]
theorem ar4 {p q:Rat} (h:og p q≤0):p≤q:=by
 unfold og at h;split at h
 ·rename_i h1;exact Rat.le_of_lt h1
 ·split at h
  ·omega
  ·rename_i h2;exact Rat.not_lt.1 h2
theorem ar5 {p q:Rat} (h:0≤og p q):q≤p:=by
 unfold og at h;split at h
 ·omega
 ·rename_i h1;exact Rat.not_lt.1 h1
theorem Bu {p q:Rat} {a b:Nat} (hp:Hq a p) (hq:Hq b q) (h:a+b<600) (W:World) (ht:jw.Pow W) :
  Calls Tryz.prog 18 #[.agg #[.string (Fr.of p).n,.string (Fr.of p).d],.agg #[.string (Fr.of q).n,.string (Fr.of q).d]] W (fun e w'=>e= .returned (.tuple #[.agg #[.string (Fr.of (p*q)).n,.string (Fr.of (p*q)).d],.int .i64 0])∧Below W.heap.size W w'):=by
 have:=fM.Ci (Fr.of p) (Fr.of q) W ht;rw [aB0 hp hq h] at this;exact this
theorem TU {a0 a1 a2 e0 e1 f0 f1:Int} {p0 p1 p2 q r:Rat} (h0:Hq 4 p0∧0<p0) (h1:Hq 4 p1∧0<p1) (h2:Hq 4 p2∧0<p2) (hq:Hq 10 q) (hq0:0≤q) (hq1:q≤1) (hr:Hq 10 r) (hr0:0≤r) (hr1:r≤1)
  (W1:∀ W,Calls Tryz.prog 12 #[.agg #[.int .u16 a0,.int .u16 a1,.int .u16 a2]] W (fun e w'=>e= .returned (.agg #[.string (Fr.of p0).n,.string (Fr.of p0).d,.string (Fr.of p1).n,.string (Fr.of p1).d,.string (Fr.of p2).n,.string (Fr.of p2).d])∧Below W.heap.size W w'))
  (S1:∀ W,Calls Tryz.prog 17 #[.agg #[.int .i16 e0,.int .u8 e1]] W (fun e w'=>e= .returned (.agg #[.string (Fr.of q).n,.string (Fr.of q).d])∧Below W.heap.size W w'))
  (S2:∀ W,Calls Tryz.prog 17 #[.agg #[.int .i16 f0,.int .u8 f1]] W (fun e w'=>e= .returned (.agg #[.string (Fr.of r).n,.string (Fr.of r).d])∧Below W.heap.size W w'))
  (w:World) (ht:jw.Pow w) (he:whole.Er w) :
  Calls Tryz.prog 4 #[.agg #[.int .u16 a0,.int .u16 a1,.int .u16 a2],.agg #[.int .i16 e0,.int .u8 e1],.agg #[.int .i16 f0,.int .u8 f1]] w (fun e w'=>e= .returned (.bool true)∧Below w.heap.size w w'):=by
 have k0:rd (Fr.of p0)=some p0:=oQ (h0.1.ok zo);have k1:rd (Fr.of p1)=some p1:=oQ (h1.1.ok zo);have k2:rd (Fr.of p2)=some p2:=oQ (h2.1.ok zo);have m:∀ {p s:Rat},Hq 4 p→Hq 10 s→rd (Fr.of (p*s))=some (p*s):=fun hp hs=>oQ ((hp.mul hs).ok zo)
 have g1:=VH hq0 hq1;have g2:=VH hr0 hr1
 have CMx:∀ W,jw.Pow W→Calls Tryz.prog 19 #[.agg #[.string (Fr.of q).n,.string (Fr.of q).d],.agg #[.string (Fr.of r).n,.string (Fr.of r).d]] W (fun e w'=>e= .returned (.tuple #[.int .i64 (og q r),.int .i64 0])∧Below W.heap.size W w'):=fun W _=>by
  have:=fM.Oo (Fr.of q) (Fr.of r) W;rw [aG6 hq hr zo zo] at this;exact this
 refine aq1 (c:=og q r) (x1:=(Fr.of p0).n) (x2:=(Fr.of p0).d) (x3:=(Fr.of p1).n) (x4:=(Fr.of p1).d) (x5:=(Fr.of p2).n) (x6:=(Fr.of p2).d) (p1:=(Fr.of q).n) (p2:=(Fr.of q).d) (q1:=(Fr.of r).n) (q2:=(Fr.of r).d)
  (g1:=(Fr.of (p0*q)).n) (g2:=(Fr.of (p0*q)).d) (g3:=(Fr.of (p1*q)).n) (g4:=(Fr.of (p1*q)).d) (g5:=(Fr.of (p2*q)).n) (g6:=(Fr.of (p2*q)).d)
  (h1:=(Fr.of (p0*r)).n) (h2:=(Fr.of (p0*r)).d) (h3:=(Fr.of (p1*r)).n) (h4:=(Fr.of (p1*r)).d) (h5:=(Fr.of (p2*r)).n) (h6:=(Fr.of (p2*r)).d)
  (l1:=yg q*116 - 16*1000000000000) (l2:=yh q*116 - 16*1000000000000) (l3:=(yg q - yh q)*500) (l4:=(yh q - yg q)*500) (l5:=(yg q - yh q)*200) (l6:=(yh q - yg q)*200)
  (m1:=yg r*116 - 16*1000000000000) (m2:=yh r*116 - 16*1000000000000) (m3:=(yg r - yh r)*500) (m4:=(yh r - yg r)*500) (m5:=(yg r - yh r)*200) (m6:=(yh r - yg r)*200)
  (hd W1) (hd fun W ht he=>lK (t:=⟨Fr.of p0,Fr.of p1,Fr.of p2⟩) (w:=⟨Fr.of p0,Fr.of p1,Fr.of p2⟩) (OD k0 k1 k2 h0.2 h1.2 h2.2) W ht he (fun h=>absurd rfl h)) (hd S1) (hd S2)
  (hd fun W ht=>Bu h0.1 hq zo W ht) (hd fun W ht=>Bu h1.1 hq zo W ht) (hd fun W ht=>Bu h2.1 hq zo W ht)
  (hd fun W ht=>Bu h0.1 hr zo W ht) (hd fun W ht=>Bu h1.1 hr zo W ht) (hd fun W ht=>Bu h2.1 hr zo W ht)
  (hd fun W ht he=>lK (t:=⟨Fr.of (p0*q),Fr.of (p1*q),Fr.of (p2*q)⟩) (w:=⟨Fr.of p0,Fr.of p1,Fr.of p2⟩) (yA (m h0.1 hq) (m h1.1 hq) (m h2.1 hq) k0 k1 k2 h0.2 h1.2 h2.2 hq0 hq1 (hq.mono zo)) W ht he (fun h=>absurd rfl h))
  (hd fun W ht he=>lK (t:=⟨Fr.of (p0*r),Fr.of (p1*r),Fr.of (p2*r)⟩) (w:=⟨Fr.of p0,Fr.of p1,Fr.of p2⟩) (yA (m h0.1 hr) (m h1.1 hr) (m h2.1 hr) k0 k1 k2 h0.2 h1.2 h2.2 hr0 hr1 (hr.mono zo)) W ht he (fun h=>absurd rfl h))
  (hd CMx) zo zo zo zo zo zo zo zo zo zo zo zo
  (fun h=>Iy hq0 (ar4 h)) (fun h=>Iy hr0 (ar5 h)) w ht he
theorem Ti (a0 a1 a2 e0 e1 f0 f1:Int) (h0:0≤a0∧a0≤65535) (h1:0≤a1∧a1≤65535) (h2:0≤a2∧a2≤65535) (h3: -32768≤e0∧e0≤32767) (h4:0≤e1∧e1≤255) (h5: -32768≤f0∧f0≤32767) (h6:0≤f1∧f1≤255)
  (w:World) (ht:jw.Pow w) (he:whole.Er w) :
  Calls Tryz.prog 4 #[.agg #[.int .u16 a0,.int .u16 a1,.int .u16 a2],.agg #[.int .i16 e0,.int .u8 e1],.agg #[.int .i16 f0,.int .u8 f1]] w (fun e w'=>e= .returned (.bool true)∧Below w.heap.size w w'):=by
 obtain ⟨q,q0,q1,q2',S1⟩:=kK.QJ e0 e1 h3 h4;obtain ⟨r,r0,r1,r2,S2⟩:=kK.QJ f0 f1 h5 h6;exact TU (LX h0.1) (LX h1.1) (LX h2.1) q2' q0 q1 r2 r0 r1 (fun W=>kK.ag7 a0 a1 a2 h0 h1 h2 W) S1 S2 w ht he
end Go.Proofs.verdigrislaw24
namespace Go.Proofs.YtneajphgfdlmhaaGreatDoor
open Go Go.ChangeShapes Go.WideShapes Go.RowKit Go.Proofs
theorem sM {P:Program} {w:World} {r:Reach} {b:Nat} {u:TypeId} {k:IntKind} {v:Value} (hu:P.underlying u=some (.int k)) (h:Cell.okWide P w r b u v):∃ n,v= .int k n∧k.has n:=by
 unfold Cell.okWide at h;simp only [hu] at h;unfold Cell.ok at h;simp only [hu] at h;cases v<;>simp at h
 obtain ⟨rfl,h⟩:=h;exact ⟨_,rfl,h⟩
theorem aw8 {α:Type} {l:List α} (h:l.length=2):∃ x0 x1,l=[x0,x1]:=by
 match l,h with
 | [x0,x1],_=>exact ⟨x0,x1,rfl⟩
theorem aX2 {α:Type} {l:List α} (h:l.length=3):∃ x0 x1 x2,l=[x0,x1,x2]:=by
 match l,h with
 | [x0,x1,x2],_=>exact ⟨x0,x1,x2,rfl⟩
theorem BM {P:Program} {w:World} {r:Reach} {b:Nat} {T:TypeId} {d:TypeDesc} {ts:List TypeId} {v:Value} (hu:P.underlying T=some d) (hd:(match d with| .struct _| .array _ _=>true| _=>false)=true)
  {n:Nat} (hc:P.cellTypes P.depth T=some ts) (hn:P.cellsOf T=n) (hl:ts.length=n) (h:Value.okWide P w r b T v):∃ l:List Value,v= .agg ⟨l⟩∧l.length=n∧∀ (i:Nat) x u,l[i]? =some x→ts[i]? =some u→Cell.okWide P w r b u x:=by
 have h':∃ cs,v= .agg cs∧cs.size=P.cellsOf T∧Row.okWide P w r b T cs:=by
  unfold Value.okWide at h;rw [hu] at h;cases d<;>simp at hd<;>exact h
 obtain ⟨⟨l⟩,rfl,hs,ts',ht, -, hx⟩:=h';rw [hc] at ht;cases ht
 refine ⟨l,rfl,by rw [← hn];exact hs,fun i x u hi hui=>?_⟩;obtain ⟨u',h1,h2⟩:=hx i x (by simpa using hi);have hlt:i<ts.length:=(List.getElem?_eq_some_iff.1 hui).1;rw [Nat.mod_eq_of_lt hlt,hui] at h1;cases h1
 exact h2
theorem ac7 {n:Int} (h:IntKind.u8.has n):0≤n∧n≤255:=by
 simpa [IntKind.has,IntKind.min,IntKind.max,IntKind.signed,IntKind.bits] using h
theorem Nt {n:Int} (h:IntKind.u16.has n):0≤n∧n≤65535:=by
 simpa [IntKind.has,IntKind.min,IntKind.max,IntKind.signed,IntKind.bits] using h
theorem VG {n:Int} (h:IntKind.i16.has n):(-32768)≤n∧n≤32767:=by
 simpa [IntKind.has,IntKind.min,IntKind.max,IntKind.signed,IntKind.bits] using h
theorem Hw:laidOutB Tryz.prog=true:=by kernel_rfl
end Go.Proofs.YtneajphgfdlmhaaGreatDoor
