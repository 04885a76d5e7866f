/- Lemmas for the proof. No condition. -/
import Derived.Test.YtbngfhgoeoncmaaGreatDoorTB12
import Derived.Laws.MakeOwn
import Derived.RangeFuncBox
set_option linter.unusedVariables false
set_option linter.unusedSimpArgs false
set_option maxRecDepth 100000
set_option maxHeartbeats 16000000
open Go.Ending renaming returned → ah
open Go.IntKind renaming i64 → I
open Go.Value renaming agg → aB, bool → aC, int → Z, pointer → au, slice → aj, string → O
open List renaming getD_eq_getElem?_getD → bJ, getElem?_append_left → fq, getElem_mem → bN, length_eq_zero_iff → Bz, range → bI, take_succ_eq_append_getElem → fP
open Nat renaming div_eq_of_lt → iB, eq_zero_or_pos → bA, le_refl → aG, le_trans → ay, lt_or_ge → aH, mod_eq_of_lt → gH, mul_pos → fV
namespace Go.Proofs.dR
open Go Go.RowKit Go.SW Go.Num Go.Mem Go.Proofs Go.d9
def Kk (a b:Int × Int) (k:Nat):Int × Bool:=jL (J6 a k) (Ic b k) 1000000000000 false
def vU (a b:Int × Int) (k:Nat):Int × Bool:=jL (J6 a k) (Ic b k) 1000000000000 true
def Xg (a b:Int × Int):Bool:=(bI 4).all fun k=>(Kk a b k).2&&(vU a b k).2
def LC (a b:Int × Int):(Int × Int) × Int:=if Xg a b then iV ([(Kk a b 0).1,(Kk a b 1).1,(Kk a b 2).1,(Kk a b 3).1].foldl min (Kk a b 0).1) ([(vU a b 0).1,(vU a b 1).1,(vU a b 2).1,(vU a b 3).1].foldl max (vU a b 0).1) else ((0,0),6)
def sO (a b:Int × Int):(Int × Int) × Int:=if okB [a,b] then LC a b else ((0,0),30)
theorem LB (x y z t:Int) (hx:x.natAbs≤1000000000000000000) (hy:y.natAbs≤1000000000000000000) (hz:z.natAbs≤1000000000000000000) (ht:t.natAbs≤1000000000000000000) (w:World) :
  Calls Tryz.prog 55 #[aB #[Z I x,Z I y],aB #[Z I z,Z I t],.func (.func 56) #[] #[]] w (fun e w'=>e= ah (ig (LC (x,y) (z,t)))∧Below w.heap.size w w'):=by
 have hpx:∀ k,(J6 (x,y) k).natAbs≤1000000000000000000:=fun k=>by unfold J6;split<;>assumption
 have hpy:∀ k,(Ic (z,t) k).natAbs≤1000000000000000000:=fun k=>by unfold Ic;split<;>assumption
 exact uf (fun x y up=>jL x y 1000000000000 up) 56 #[] x y z t w (fun k up W _=>Ud _ _ up (hpx k) (hpy k) W) (fun args W=>by rfl)
theorem Ue (x y z t:Int) (h0:okB [(x,y),(z,t)]=true) (b c:Nat) (w:World) (h:aA w b #[Z I x,Z I y] 26) (k:aA w c #[Z I z,Z I t] 26) :
  Calls Tryz.prog 54 #[au (some ⟨b,0,none⟩),au (some ⟨c,0,none⟩)] w (fun e w'=>e= ah (ig (LC (x,y) (z,t)))∧Below w.heap.size w w'):=by
 have h0':jy x y=true∧jy z t=true:=by simpa [okB] using h0
 obtain ⟨hk1,hk2,hk3⟩: -1000000000000000000≤x∧x≤y∧y≤1000000000000000000:=by simpa [jy] using h0'.1
 obtain ⟨hk4,hk5,hk6⟩: -1000000000000000000≤z∧z≤t∧t≤1000000000000000000:=by simpa [jy] using h0'.2
 have H:=zh (fun W=>LB x y z t zo zo zo zo W);generalize LC (x,y) (z,t)=m at *;obtain ⟨⟨m1,m2⟩,m3⟩:=m;unfold ig at *;simp only at *;have cb:=h.cell;have lb:=h.lt;have cc:=k.cell;have lc:=k.lt;clear h k h0 h0' hk1 hk2 hk3 hk4 hk5 hk6;go_enter Tryz.func54,Tryz.ntmps54
 go_wp2_with fail
 refine (H.out _).mono ?_;rintro e w1 ⟨rfl,hb1⟩;have hx:=aA.later (aA.new w #[Z I 0,Z I 0] 26) hb1;have cx:=hx.cell;have fx:=hx.free;have lx:=hx.lt;have hw:=Bt (show Below w.heap.size w (w.alloc (.cells #[Z I 0,Z I 0] 26)) from aO) hb1;go_wp2_with fail
 refine bE rfl rfl aY Tryz.underlying26 rfl zk ?_;exact ⟨rfl,aO⟩
theorem wu (x y z t:Int) (w:World):Calls Tryz.prog 25 #[aB #[Z I x,Z I y],aB #[Z I z,Z I t]] w (fun e w'=>e= ah (ig (sO (x,y) (z,t)))∧Below w.heap.size w w'):=by
 have H:Hid (∀ W b c d,aA W b #[Z I x,Z I y] 26→aA W c #[Z I z,Z I t] 26→aA W d #[Z I x,Z I y,Z I z,Z I t] 26→Calls Tryz.prog 53 #[.func (.func 54) #[] #[au (some ⟨b,0,none⟩),au (some ⟨c,0,none⟩)],aj (some ⟨d,0,none⟩) 2 2] W (fun e w'=>e= ah (ig (sO (x,y) (z,t)))∧Below W.heap.size W w')):=zh fun W b c d h1 h2 h3 =>
  qA 54 #[au (some ⟨b,0,none⟩),au (some ⟨c,0,none⟩)] _ _ _ _ W (DZ.two h3) (fun h W' hW'=>Ue x y z t h b c W' (h1.later hW') (h2.later hW')) (fun args W=>by rfl)
 generalize sO (x,y) (z,t)=m at *;obtain ⟨⟨m1,m2⟩,m3⟩:=m;unfold ig at *;simp only at *;go_enter Tryz.func25,Tryz.ntmps25
 go_wp2_with fail
 obtain ⟨wx,EW,hz,X,Y,R,dA⟩:=al4 w #[Z I x,Z I y] 26 #[Z I z,Z I t] 26 #[Z I 0,Z I 0] 26 #[Z I x,Z I y,Z I z,Z I t] 26;rw [EW];clear EW;have HB:=zh hz;clear hz;refine (H.out _ _ _ _ X.out Y.out dA.out).mono ?_;rintro e w1 ⟨rfl,hb1⟩;replace R:=R.bl hb1;replace HB:=zh (Bt HB.out hb1);clear hb1 H;have hx:=R.out;have cx:=hx.cell;have fx:=hx.free;have lx:=hx.lt;have hw:=HB.out;go_wp2_with fail
 refine bE rfl rfl aY Tryz.underlying26 rfl zk ?_;exact ⟨rfl,aO⟩
def lK (a b:Int × Int):(Int × Int) × Int:=if okB [a,b] then iV (a.1+b.1) (a.2+b.2) else ((0,0),30)
theorem Ux (x y z t:Int) (h0:okB [(x,y),(z,t)]=true) (b c:Nat) (w:World) (h:aA w b #[Z I x,Z I y] 26) (k:aA w c #[Z I z,Z I t] 26) :
  Calls Tryz.prog 162 #[au (some ⟨b,0,none⟩),au (some ⟨c,0,none⟩)] w (fun e w'=>e= ah (ig (iV (x+z) (y+t)))∧Below w.heap.size w w'):=by
 have h0':jy x y=true∧jy z t=true:=by simpa [okB] using h0
 obtain ⟨hk1,hk2,hk3⟩: -1000000000000000000≤x∧x≤y∧y≤1000000000000000000:=by simpa [jy] using h0'.1
 obtain ⟨hk4,hk5,hk6⟩: -1000000000000000000≤z∧z≤t∧t≤1000000000000000000:=by simpa [jy] using h0'.2
 have H:=zh (fun W=>CY (x+z) (y+t) W);generalize iV (x+z) (y+t)=m at *;obtain ⟨⟨m1,m2⟩,m3⟩:=m;unfold ig at *;simp only at *;have cb:=h.cell;have lb:=h.lt;have cc:=k.cell;have lc:=k.lt;clear h k h0 h0';go_enter Tryz.func162,Tryz.ntmps162
 go_wp2_with fail
 refine (H.out _).mono ?_;rintro e w1 ⟨rfl,hb1⟩;have hx:=aA.later (aA.new w #[Z I 0,Z I 0] 26) hb1;have cx:=hx.cell;have fx:=hx.free;have lx:=hx.lt;have hw:=Bt (show Below w.heap.size w (w.alloc (.cells #[Z I 0,Z I 0] 26)) from aO) hb1;go_wp2_with fail
 refine bE rfl rfl aY Tryz.underlying26 rfl zk ?_;exact ⟨rfl,aO⟩
theorem DU (x y z t:Int) (w:World):Calls Tryz.prog 98 #[aB #[Z I x,Z I y],aB #[Z I z,Z I t]] w (fun e w'=>e= ah (ig (lK (x,y) (z,t)))∧Below w.heap.size w w'):=by
 have H:Hid (∀ W b c d,aA W b #[Z I x,Z I y] 26→aA W c #[Z I z,Z I t] 26→aA W d #[Z I x,Z I y,Z I z,Z I t] 26→Calls Tryz.prog 53 #[.func (.func 162) #[] #[au (some ⟨b,0,none⟩),au (some ⟨c,0,none⟩)],aj (some ⟨d,0,none⟩) 2 2] W (fun e w'=>e= ah (ig (lK (x,y) (z,t)))∧Below W.heap.size W w')):=zh fun W b c d h1 h2 h3 =>
  qA 162 #[au (some ⟨b,0,none⟩),au (some ⟨c,0,none⟩)] _ _ _ _ W (DZ.two h3) (fun h W' hW'=>Ux x y z t h b c W' (h1.later hW') (h2.later hW')) (fun args W=>by rfl)
 generalize lK (x,y) (z,t)=m at *;obtain ⟨⟨m1,m2⟩,m3⟩:=m;unfold ig at *;simp only at *;go_enter Tryz.func98,Tryz.ntmps98
 go_wp2_with fail
 obtain ⟨wx,EW,hz,X,Y,R,dA⟩:=al4 w #[Z I x,Z I y] 26 #[Z I z,Z I t] 26 #[Z I 0,Z I 0] 26 #[Z I x,Z I y,Z I z,Z I t] 26;rw [EW];clear EW;have HB:=zh hz;clear hz;refine (H.out _ _ _ _ X.out Y.out dA.out).mono ?_;rintro e w1 ⟨rfl,hb1⟩;replace R:=R.bl hb1;replace HB:=zh (Bt HB.out hb1);clear hb1 H;have hx:=R.out;have cx:=hx.cell;have fx:=hx.free;have lx:=hx.lt;have hw:=HB.out;go_wp2_with fail
 refine bE rfl rfl aY Tryz.underlying26 rfl zk ?_;exact ⟨rfl,aO⟩
end Go.Proofs.dR
namespace Go.Mem
open Go Go.RowKit Go.SW Go.Num
def Nm (w:World) (v:Value) (n:Nat):Prop:=Row w 3 v (ints (fG 10000 n))
theorem Nm.later {w w':World} {v:Value} {n:Nat} (h:Nm w v n) (hb:Below w.heap.size w w'):Nm w' v n:=Row.later h hb
theorem Nm.setOther {w:World} {v:Value} {n:Nat} (h:Nm w v n) {b:Nat} {cs:Array Value} {T':TypeId} (hx:aA w b cs T') (hT:3≠T') (o:Nat) (u:Value):Nm (w.setCell ⟨b,o,none⟩ u) v n:=Row.setOther h hx hT o u
def Gs (w:World) (v:Value) (l:List Nat):Prop:=Row w 3 v (ints l)
theorem Gs.later {w w':World} {v:Value} {l:List Nat} (h:Gs w v l) (hb:Below w.heap.size w w'):Gs w' v l:=Row.later h hb
theorem Gs.cases {w:World} {v:Value} {l:List Nat} (h:Gs w v l) :
  (v= aj none 0 0∧l=[])∨∃ b off cap,v= aj (some ⟨b,off,none⟩) l.length cap∧l.length≤cap∧cap≤9223372036854775807∧b<w.heap.size∧(∃ arr,aA w b arr 3)∧∀ i,i<l.length→w.cell? ⟨b,off+i,none⟩=some (.int .i64 (l.getD i 0:Nat)):=by
 rcases Row.cases h with ⟨h1,h2⟩|⟨b,off,cap,arr,h1,h2,h3,h4,h5⟩
 ·refine .inl ⟨h1,?_⟩;unfold ints at h2
  simpa using h2
 ·refine .inr ⟨b,off,cap,by rw [h1,je],by rwa [je] at h2,h3,h4.lt,⟨arr,h4⟩,fun i hi=>?_⟩;rw [h4.cell,h5 i (by rw [je];exact hi)];simp [ints,hi]
theorem Gs.read {w:World} {v:Value} {l:List Nat} (h:Gs w v l) :
  ∃ a cap,v= aj a l.length cap∧l.length≤cap∧cap≤9223372036854775807∧∀ k,k<l.length→∃ b off,a=some ⟨b,off,none⟩∧b<w.heap.size∧w.cell? ⟨b,off+k,none⟩=some (.int .i64 (l.getD k 0:Nat)):=by
 rcases Gs.cases h with ⟨rfl,rfl⟩|⟨b,off,cap,rfl,h1,h2,h3,_,h5⟩
 ·exact ⟨none,0,rfl,by simp,by simp,fun k hk=>by cases hk⟩
 ·exact ⟨some ⟨b,off,none⟩,cap,rfl,h1,h2,fun k hk=>⟨b,off,rfl,h3,h5 k hk⟩⟩
theorem Nm.gs {w:World} {v:Value} {n:Nat} (h:Nm w v n):Gs w v (fG 10000 n):=h
theorem Nm.lit {w:World} {d:Nat} (h0:0<d) (h1:d<10000):Nm (w.alloc (.cells #[Z I d] 3 (0,0))) (aj (some ⟨w.heap.size,0,none⟩) 1 1) d:=by
 have e:fG 10000 d=[d]:=by rw [j3 zo h0,gH h1,iB h1,gY]
 unfold Nm;rw [e];refine Row.mk rfl (by simp [ints]) zo (aA.new _ _ _) fun i hi=>?_
 match i,hi with
 | 0,_=>rfl
theorem Nm.zero (w:World):Nm w (aj none 0 0) 0:=by unfold Nm;rw [gY];exact Row.nil _ _
theorem Nm.slice {w:World} {v:Value} {n:Nat} (h:Nm w v n):∃ pa l ca,v= aj pa l ca:=by
 obtain ⟨a,cap,h1, -⟩:=h;exact ⟨_,_,_,h1⟩
def Pl (w:World) (v:Value) (z:Int):Prop:=∃ pa l ca,v= aB #[aC (decide (z<0)),aj pa l ca]∧Nm w (aj pa l ca) z.natAbs
theorem Pl.later {w w':World} {v:Value} {z:Int} (h:Pl w v z) (hb:Below w.heap.size w w'):Pl w' v z:=by
 obtain ⟨pa,l,ca,h1,h2⟩:=h;exact ⟨pa,l,ca,h1,h2.later hb⟩
theorem Pl.mk {w:World} {m:Value} {z:Int} {b:Bool} {n:Nat} (h:Nm w m n) (hn:n=z.natAbs) (hb:b=decide (z<0)):Pl w (aB #[aC b,m]) z:=by
 obtain ⟨pa,l,ca,rfl⟩:=h.slice;exact ⟨pa,l,ca,by rw [hb],hn ▸ h⟩
theorem Pl.cast {w:World} {v:Value} {y z:Int} (h:Pl w v y) (e:y=z):Pl w v z:=e ▸ h
theorem Nm.alloc {w:World} {v:Value} {n:Nat} (h:Nm w v n) (o:Obj):Nm (w.alloc o) v n:=h.later ((Below.refl _ _).alloc (aG _) _)
theorem Gs.alloc {w:World} {v:Value} {n:List Nat} (h:Gs w v n) (o:Obj):Gs (w.alloc o) v n:=h.later ((Below.refl _ _).alloc (aG _) _)
theorem Pl.agg {w:World} {v:Value} {z:Int} (h:Pl w v z):∃ b pa l ca,v= aB #[aC b,aj pa l ca]:=by
 obtain ⟨pa,l,ca,h1, -⟩:=h;exact ⟨_,_,_,_,h1⟩
theorem Pl.setOther {w:World} {v:Value} {z:Int} (h:Pl w v z) {b:Nat} {cs:Array Value} {T':TypeId} (hx:aA w b cs T') (hT:3≠T') (o:Nat) (u:Value):Pl (w.setCell ⟨b,o,none⟩ u) v z:=by
 obtain ⟨pa,l,ca,h1,h2⟩:=h;exact ⟨pa,l,ca,h1,h2.setOther hx hT o u⟩
theorem Nm.read {w:World} {v:Value} {n:Nat} (h:Nm w v n):∃ a cap,v= aj a (sz 10000 n) cap∧sz 10000 n≤cap∧cap≤9223372036854775807∧∀ k,k<sz 10000 n→∃ b off,a=some ⟨b,off,none⟩∧b<w.heap.size∧w.cell? ⟨b,off+k,none⟩=some (.int .i64 ((fG 10000 n).getD k 0:Nat)):=Gs.read h.gs
end Go.Mem
namespace Go.Fx
open Go Go.RowKit Go.SW Go.Mem Go.Proofs
section
variable {P:Program} {n:Nat} {fn:Func} {T:Int→Ending} {w0:World} {V:Value} {k:Int} {p:Pos} {S:Sl} {L:Mm}
theorem uD {R:Post} {c:List PanicEntry} {w:World} (h:R (.panic c) S w):∀ ks:List Kt,Cont P n R ks (.panic c) S w
 | []=>h
 | x::ks=>by cases x<;>exact uD h ks
theorem bD (hT:∀ k,∃ c,T k= .panicked c) (hs:List Nat) (d:Nat) (St:Sl) (U:List (Nat × Array Value)) {f:FuncId} {args:Array Value} {v:Value} {k1:Int} {A:Prop} (hC:∀ w,Mem w0 [] (upd L U) w→Calls P f args w (DF T w v k1)) (hn:(k1=0∧A)∨(k1≠0∧k=k1))
  (hc:k1=0→A→G P n (Ends P n fn (DF T w0 V k)) w0 [] (tr 4000 hs p).2.past ((d,v)::(St++S)) (upd L U))
  (h:AZ P n w0 (tr 4000 hs p).1 S L St (upd L U):=by intro _;kernel_rfl) (hx:∀ w,qB P n w (AO P n w0 (tr 4000 hs p).1 S L) (tr 4000 hs p).2=some (d,f,args,w):=by intro _;kernel_rfl):G P n (Ends P n fn (DF T w0 V k)) w0 [] p S L:=by
 refine Rh hs St _ h ?_;have hsub:=h.sub;have hh:=sG (hx w0);generalize AO P n w0 (tr 4000 hs p).1 S L=F at hx hsub ⊢;generalize (tr 4000 hs p).2=q at hc hx hh;generalize upd L U=L at hC hc;generalize St++S=S at hc hsub;obtain ⟨ops,o,hn',hf,hw,hd,hlt, -⟩:=jR (h:=hx w0);refine place hn' hf hw (Y:=fun N H w a a' w1=>a'=a.put (some d) v∧Below w.heap.size w w1∧k1=0∧A) (fun w N H hM hok a ha K hK ks=>?_) fun w N H hM hok a a' w' ha hy=>?_
 ·obtain ⟨ops',o',hn2, -, -, -, -, hr⟩:=jR (h:=hx w);rw [hn'] at hn2;cases hn2
  unfold Oper.wp;rw [ha.exec hf,hr];simp only [Oper.upon];refine (hC w hM).mono fun e w' he=>?_;obtain ⟨hb,⟨h1,rfl⟩|⟨h1,rfl⟩⟩:=he
  ·rw [hd]
   rcases hn with ⟨-, hA⟩|⟨h2, -⟩
   ·exact hK _ _ ⟨rfl,hb,h1,hA⟩
   ·exact absurd h1 h2
  ·obtain ⟨c,hc'⟩:=hT k1
   rcases hn with ⟨h2, -⟩|⟨h2,h3⟩
   ·exact absurd h2 h1
   ·rw [hc'];refine ⟨ha.defers,F,uD ?_ ks⟩
    show DF T w0 V k (.panicked c) w'
    exact ⟨Bt hM.below hb,.inr ⟨by rw [h3];exact h1,by rw [h3,hc']⟩⟩
 ·obtain ⟨rfl,h1,h2,h3⟩:=hy;exact ⟨fun _ _ _ _ _ _=>.of h1,_,ha.put hlt v,((hc h2 h3).of (kT hsub d v) hh).out w' N H (hM.later h1) (uP hok (fun _=>rfl) rfl)⟩
end
end Go.Fx
namespace Go.Num
end Go.Num
namespace Go.Num
end Go.Num
namespace Go.Proofs.dI
def flr (q:Rat):Int:=q.num / (q.den:Int)
end Go.Proofs.dI
namespace Go.Proofs.dV
open Go Go.Num Go.d9 Go.Proofs.dR Go.Proofs.dI
def un (n:Int):Rat:=(n:Rat) / ((1000000000000:Int):Rat)
def iP (a b:Rat):(Int × Int) × Int:=iV (flr (a*((1000000000000:Int):Rat))) (-(flr (-(b*((1000000000000:Int):Rat)))))
theorem QD {X Y:Int} (h:X< -1000000000000000000∨1000000000000000000<Y∨Y<X):jy X Y=false:=by
 unfold jy
 rcases h with h|h|h
 ·rw [decide_eq_false (show ¬ -1000000000000000000≤X by omega)];rfl
 ·rw [decide_eq_false (show ¬ Y≤1000000000000000000 by omega)];simp
 ·rw [decide_eq_false (show ¬ X≤Y by omega)];simp
end Go.Proofs.dV
namespace Go.d9
open Go Go.RowKit Go.Num Go.Mem
def qM (w:World) (T:TypeId) (v:Value) (l:List Fr):Prop :=
 ∃ a cap,v= aj a l.length cap∧l.length≤cap∧cap≤9223372036854775807∧(a=none→cap=0) ∧
  ∀ ad,a=some ad→ad.spot=none∧∃ arr,aA w ad.block arr T∧∀ i (h:i<l.length),arr[ad.off+i*2]? =some (.string l[i].n)∧arr[ad.off+i*2+1]? =some (.string l[i].d)
theorem qM.later {w w':World} {T:TypeId} {v:Value} {l:List Fr} (h:qM w T v l) (hb:Below w.heap.size w w'):qM w' T v l:=by
 obtain ⟨a,cap,h1,h2,h3,h4,h5⟩:=h;refine ⟨a,cap,h1,h2,h3,h4,fun ad had=>?_⟩;obtain ⟨h6,arr,h7,h8⟩:=h5 ad had;exact ⟨h6,arr,h7.later hb,h8⟩
theorem qM.read {w:World} {T:TypeId} {v:Value} {l:List Fr} (h:qM w T v l) :
  ∃ a cap,v= aj a l.length cap∧l.length≤cap∧cap≤9223372036854775807∧∀ k (_:k<l.length),∃ b off,a=some ⟨b,off,none⟩∧b<w.heap.size∧w.cell? ⟨b,off+k*2,none⟩=some (.string l[k].n)∧w.cell? ⟨b,off+k*2+1,none⟩=some (.string l[k].d):=by
 obtain ⟨a,cap,h1,h2,h3,h4,h5⟩:=h;refine ⟨a,cap,h1,h2,h3,fun k hk=>?_⟩;cases a with
 | none=>have:=h4 rfl;omega
 | some ad =>
  obtain ⟨h6,arr,h7,h8⟩:=h5 ad rfl;obtain ⟨b,off,sp⟩:=ad;simp only at h6;subst h6;obtain ⟨h9,h10⟩:=h8 k hk;exact ⟨b,off,rfl,h7.lt,(h7.cell _).trans h9,(h7.cell _).trans h10⟩
def jW (l:List Fr):Int:=if l.all (fun a=>(rd a).isSome) then 0 else 20
theorem Gg {a:Fr} (h:(rd a).isSome=true):Cc a=0:=by unfold Cc;rw [h];rfl
theorem Qt {a:Fr} (h:(rd a).isSome=false):Cc a=20:=by unfold Cc;rw [h];rfl
def kN (w:World) (v:Value) (m:List (List Fr)):Prop :=
 ∃ rs:List Value,Row w 130 v rs∧rs.length=m.length∧∀ i (h:i<rs.length) (h':i<m.length),qM w 38 rs[i] m[i]
theorem kN.later {w w':World} {v:Value} {m:List (List Fr)} (h:kN w v m) (hb:Below w.heap.size w w'):kN w' v m:=by
 obtain ⟨rs,h1,h2,h3⟩:=h;exact ⟨rs,h1.later hb,h2,fun i h h'=>(h3 i h h').later hb⟩
def ZO (m:List (List Fr)):Bool:=decide (1≤m.length)&&decide (m.length≤4)&&decide (1≤(m.headD []).length)&&decide ((m.headD []).length≤4)&&m.all (fun r=>r.length == (m.headD []).length&&jW r == 0)
def Dv (m:List (List Fr)):Int:=if ZO m then 0 else 50
def Fill (w:World) (g:Nat) (T:TypeId) (n k:Nat) (ok:World→Nat→Value→Value→Prop):Prop :=
 ∃ arr,aA w g arr T∧arr.size=n*2∧∀ i,i<k→∃ x y,arr[i*2]? =some x∧arr[i*2+1]? =some y∧ok w i x y
theorem Fill.box {w:World} {g:Nat} {T:TypeId} {n k:Nat} {ok:World→Nat→Value→Value→Prop} (h:Fill w g T n k ok):∃ arr,aA w g arr T∧arr.size=n*2:=by
 obtain ⟨arr,h1,h2, -⟩:=h;exact ⟨arr,h1,h2⟩
theorem Fill.lt {w:World} {g:Nat} {T:TypeId} {n k:Nat} {ok:World→Nat→Value→Value→Prop} (h:Fill w g T n k ok):g<w.heap.size:=by
 obtain ⟨arr,h1, -⟩:=h;exact h1.lt
theorem Fill.AV {w:World} {g:Nat} {T:TypeId} {n k:Nat} {ok:World→Nat→Value→Value→Prop} (h:Fill w g T n k ok):wB w g T:=by
 obtain ⟨arr,h1, -⟩:=h;exact h1.AV
theorem Fill.later {w w':World} {g:Nat} {T:TypeId} {n k:Nat} {ok:World→Nat→Value→Value→Prop} (h:Fill w g T n k ok) (hb:Below w.heap.size w w') (hok:∀ i x y,ok w i x y→ok w' i x y):Fill w' g T n k ok:=by
 obtain ⟨arr,h1,h2,h3⟩:=h;refine ⟨arr,h1.later hb,h2,fun i hi=>?_⟩;obtain ⟨x,y,k1,k2,k3⟩:=h3 i hi;exact ⟨x,y,k1,k2,hok _ _ _ k3⟩
theorem Fill.cells {w:World} {g:Nat} {T:TypeId} {n k:Nat} {ok:World→Nat→Value→Value→Prop} (h:Fill w g T n k ok) {j:Nat} (hj:j<n) :
  (∃ x,w.cell? ⟨g,j*2,none⟩=some x)∧(∃ y,w.cell? ⟨g,j*2+1,none⟩=some y)∧∀ o,w.frozen? ⟨g,o,none⟩=false:=by
 obtain ⟨arr,h1,h2,h3⟩:=h;refine ⟨⟨arr[j*2]'zo,?_⟩,⟨arr[j*2+1]'zo,?_⟩,h1.free⟩
 ·rw [h1.cell];exact Array.getElem?_eq_getElem _
 ·rw [h1.cell];exact Array.getElem?_eq_getElem _
theorem Fill.step {w:World} {g:Nat} {T:TypeId} {n k:Nat} {ok:World→Nat→Value→Value→Prop} {x y:Value} (h:Fill w g T n k ok) (hk:k<n)
  (hok:∀ i x' y',ok w i x' y'→ok ((w.setCell ⟨g,k*2,none⟩ x).setCell ⟨g,k*2+1,none⟩ y) i x' y')
  (hx:ok ((w.setCell ⟨g,k*2,none⟩ x).setCell ⟨g,k*2+1,none⟩ y) k x y) :
  Fill ((w.setCell ⟨g,k*2,none⟩ x).setCell ⟨g,k*2+1,none⟩ y) g T n (k+1) ok:=by
 obtain ⟨arr,h1,h2,h3⟩:=h;refine ⟨(arr.setIfInBounds (k*2) x).setIfInBounds (k*2+1) y,(h1.set _ _).set _ _,by simp [h2],fun i hi=>?_⟩
 rcases aH i k with h|h
 ·obtain ⟨x',y',k1,k2,k3⟩:=h3 i h;refine ⟨x',y',?_,?_,hok _ _ _ k3⟩
  ·rw [Array.getElem?_setIfInBounds,if_neg zo,Array.getElem?_setIfInBounds,if_neg zo,k1]
  ·rw [Array.getElem?_setIfInBounds,if_neg zo,Array.getElem?_setIfInBounds,if_neg zo,k2]
 ·obtain rfl:i=k:=by omega
  refine ⟨x,y,?_,?_,hx⟩
  ·rw [Array.getElem?_setIfInBounds,if_neg zo,Array.getElem?_setIfInBounds,if_pos rfl,if_pos zo]
  ·rw [Array.getElem?_setIfInBounds,if_pos rfl,if_pos (by simp;omega)]
theorem Fill.start {w:World} {base g n:Nat} {T:TypeId} {z:Array Value} {ok:World→Nat→Value→Value→Prop} (h:w.ownsRow base T 2 (aj (some ⟨g,0,none⟩) n n) n (madeCells z (n*2)).toList):Fill w g T n 0 ok:=by
 obtain ⟨h1,h2|⟨g',cap,cur,h3,h4,h5,h6,h7,h8,h9⟩⟩:=h
 ·cases h2.1
 ·simp only [Value.slice.injEq,Option.some.injEq,Addr.mk.injEq,and_true,true_and] at h3;obtain ⟨rfl,rfl⟩:=h3;exact ⟨cur,h5,h8,fun i hi=>by omega⟩
def oK (f:Nat→Int) (w:World) (i:Nat) (x y:Value):Prop:=∃ pa l ca,x= aj pa l ca∧y= aC (decide (f i<0))∧aT w (aj pa l ca) (f i).natAbs
theorem oK.later {f:Nat→Int} {w w':World} (hb:Below w.heap.size w w') (i:Nat) (x y:Value) (h:oK f w i x y):oK f w' i x y:=by
 obtain ⟨pa,l,ca,h1,h2,h3⟩:=h;exact ⟨pa,l,ca,h1,h2,h3.later hb⟩
theorem oK.vN {f:Nat→Int} {w:World} {b o:Nat} {T':TypeId} {u:Value} (hx:wB w b T') (hT:22≠T') (i:Nat) (x y:Value) (h:oK f w i x y):oK f (w.setCell ⟨b,o,none⟩ u) i x y:=by
 obtain ⟨pa,l,ca,h1,h2,h3⟩:=h;exact ⟨pa,l,ca,h1,h2,h3.vN hx hT⟩
def iq (w:World) (v:Value) (l:List Int):Prop :=
 ∃ a cap,v= aj a l.length cap∧l.length≤cap∧cap≤9223372036854775807∧(a=none→cap=0) ∧
  ∀ ad,a=some ad→ad.spot=none∧∃ arr,aA w ad.block arr 206∧∀ i (h:i<l.length),∃ x y,arr[ad.off+i*2]? =some x∧arr[ad.off+i*2+1]? =some y∧oK (fun i=>l.getD i 0) w i x y
theorem iq.later {w w':World} {v:Value} {l:List Int} (h:iq w v l) (hb:Below w.heap.size w w'):iq w' v l:=by
 obtain ⟨a,cap,h1,h2,h3,h4,h5⟩:=h;refine ⟨a,cap,h1,h2,h3,h4,fun ad had=>?_⟩;obtain ⟨h6,arr,h7,h8⟩:=h5 ad had;refine ⟨h6,arr,h7.later hb,fun i hi=>?_⟩;obtain ⟨x,y,k1,k2,k3⟩:=h8 i hi;exact ⟨x,y,k1,k2,oK.later hb _ _ _ k3⟩
theorem iq.xW {w:World} {g:Nat} {l:List Int} (h:Fill w g 206 l.length l.length (oK fun i=>l.getD i 0)) (hl:l.length≤1000000):iq w (aj (some ⟨g,0,none⟩) l.length l.length) l:=by
 obtain ⟨arr,h1,h2,h3⟩:=h;refine ⟨_,_,rfl,aG _,by omega,(fun h=>by cases h),fun ad had=>?_⟩;cases had
 refine ⟨rfl,arr,h1,fun i hi=>?_⟩;obtain ⟨x,y,k1,k2,k3⟩:=h3 i hi;exact ⟨x,y,by simpa using k1,by simpa using k2,k3⟩
theorem iq.read {w:World} {v:Value} {l:List Int} (h:iq w v l) :
  ∃ a cap,v= aj a l.length cap∧l.length≤cap∧cap≤9223372036854775807∧∀ k (_:k<l.length),∃ b off pa n ca,a=some ⟨b,off,none⟩∧b<w.heap.size∧w.cell? ⟨b,off+k*2,none⟩=some (.slice pa n ca)∧w.cell? ⟨b,off+k*2+1,none⟩=some (.bool (decide (l.getD k 0<0)))∧aT w (aj pa n ca) (l.getD k 0).natAbs:=by
 obtain ⟨a,cap,h1,h2,h3,h4,h5⟩:=h;refine ⟨a,cap,h1,h2,h3,fun k hk=>?_⟩;cases a with
 | none=>have:=h4 rfl;omega
 | some ad =>
  obtain ⟨h6,arr,h7,h8⟩:=h5 ad rfl;obtain ⟨b,off,sp⟩:=ad;simp only at h6;subst h6;obtain ⟨x,y,h9,h10,pa,n,ca,rfl,rfl,hm⟩:=h8 k hk;exact ⟨b,off,pa,n,ca,rfl,h7.lt,(h7.cell _).trans h9,(h7.cell _).trans h10,hm⟩
def DL (f:Nat→Fr) (_:World) (i:Nat) (x y:Value):Prop:=x= O (f i).n∧y= O (f i).d
theorem qM.xW {w:World} {g:Nat} {T:TypeId} {l:List Fr} (h:Fill w g T l.length l.length (DL fun i=>l.getD i Fr.no)) (hl:l.length≤1000000):qM w T (aj (some ⟨g,0,none⟩) l.length l.length) l:=by
 obtain ⟨arr,h1,h2,h3⟩:=h;refine ⟨_,_,rfl,aG _,by omega,(fun h=>by cases h),fun ad had=>?_⟩;cases had
 refine ⟨rfl,arr,h1,fun i hi=>?_⟩;obtain ⟨x,y,k1,k2,k3,k4⟩:=h3 i hi;have e:l.getD i Fr.no=l[i]:=by simp [hi]
 have k3':x= O (l.getD i Fr.no).n:=k3;have k4':y= O (l.getD i Fr.no).d:=k4;rw [e] at k3' k4';exact ⟨by simpa [k3'] using k1,by simpa [k4'] using k2⟩
end Go.d9
namespace Go.d9
open Go Go.Num
def eO (qs:List Rat):Nat:=qs.foldl (fun a q=>a*(q.den / a.gcd q.den)) 1
def kC (D:Nat) (q:Rat):Int:=q.num*((D / q.den:Nat):Int)
theorem vZ (qs:List Rat) (q:Rat):eO (qs++[q])=eO qs*(q.den / (eO qs).gcd q.den):=by simp [eO]
theorem MV {qs:List Rat} {k:Nat} (h:k<qs.length):eO (qs.take (k+1))=eO (qs.take k)*(qs[k].den / (eO (qs.take k)).gcd qs[k].den):=by
 rw [fP h,vZ]
theorem qW {α:Type} {Q:List α→Prop} (h0:Q []) (h1:∀ l a,Q l→Q (l++[a])) (l:List α):Q l:=by
 have:∀ n (l:List α),l.length=n→Q l:=by
  intro n
  induction n with
  | zero=>intro l hl;rw [Bz] at hl;subst hl;exact h0
  | succ n ih =>
   intro l hl;have hne:l≠[]:=fun e=>by subst e;simp at hl
   rw [← List.dropLast_concat_getLast hne];exact h1 _ _ (ih _ (by simp [hl]))
 exact this _ l rfl
theorem lZ (qs:List Rat):0<eO qs∧(∀ q∈qs,q.den ∣ eO qs):=by
 induction qs using qW with
 | h0=>exact ⟨by simp [eO],fun q h=>by cases h⟩
 | h1 l a ih =>
  obtain ⟨h1,h2⟩:=ih;rw [vZ];have hg:(eO l).gcd a.den ∣ a.den:=Nat.gcd_dvd_right _ _;refine ⟨fV h1 (Nat.div_pos (Nat.le_of_dvd a.den_pos hg) (Nat.gcd_pos_of_pos_right _ a.den_pos)),fun q hq=>?_⟩
  rcases List.mem_append.1 hq with h|h
  ·exact Nat.dvd_trans (h2 q h) (Nat.dvd_mul_right _ _)
  ·rw [List.mem_singleton] at h;subst h;obtain ⟨c,hc⟩:=Nat.gcd_dvd_left (eO l) q.den;rw [← Nat.mul_div_assoc _ hg,Nat.mul_div_right_comm (Nat.gcd_dvd_left _ _)];exact Nat.dvd_mul_left _ _
theorem yt (qs:List Rat) (h:∀ q∈qs,iG q=true):sz 1000000000 (eO qs)≤67*qs.length+1:=by
 induction qs using qW with
 | h0=>exact cZ zo 1 _ (by simp [eO])
 | h1 l a ih =>
  rw [vZ,List.length_append,List.length_singleton];have h1:=ih (fun q hq=>h q (by simp [hq]));have h2:=(jH (h a zi)).2;have h3:=kg (B:=1000000000) zo (eO l) (a.den / (eO l).gcd a.den);have h4:= @iF a.den ((eO l).gcd a.den);omega
theorem KJ {D:Nat} {q:Rat} (hD:0<D) (h:q.den ∣ D):((kC D q:Int):Rat) / ((D:Nat):Rat)=q:=by
 obtain ⟨c,rfl⟩:=h;have hc:0<c:=by rcases bA c with e|e;subst e;simp at hD;exact e
 unfold kC;rw [Nat.mul_div_cancel_left _ q.den_pos]
 have e:q=(q.num:Rat) / ((q.den:Nat):Rat):=by
  rw [← Rat.mkRat_eq_div,Rat.mkRat_self]
 have h1:((q.den:Nat):Rat)≠0:=by
  rw [Ne,Rat.natCast_eq_zero_iff];exact q.den_nz
 have h2:((c:Nat):Rat)≠0:=by
  rw [Ne,Rat.natCast_eq_zero_iff];omega
 rw [Rat.intCast_mul,Rat.natCast_mul,Rat.intCast_natCast];generalize hn:(q.num:Rat)=n at *;generalize hd:((q.den:Nat):Rat)=d at *;generalize hcc:((c:Nat):Rat)=c' at *;rw [e]
 grind
end Go.d9
namespace Go.d9
open Go Go.RowKit Go.Num Go.Mem
def Keep (l:List TypeId) (w w':World):Prop:=∀ b cs T,T∉l→aA w b cs T→aA w' b cs T
theorem Keep.of_below {w w':World} {l:List TypeId} (h:Below w.heap.size w w'):Keep l w w':=fun _ _ _ _ hx=>hx.later h
theorem Keep.trans {a b c:World} {l:List TypeId} (h:Keep l a b) (k:Keep l b c):Keep l a c:=fun x cs T hT hx=>k x cs T hT (h x cs T hT hx)
theorem Keep.mono {a b:World} {l m:List TypeId} (h:Keep l a b) (k:∀ T,T∈l→T∈m):Keep m a b:=fun x cs T hT hx=>h x cs T (fun e=>hT (k T e)) hx
theorem Keep.setCell {w:World} {b:Nat} {T:TypeId} {o:Nat} {u:Value} (h:wB w b T):Keep [T] w (w.setCell ⟨b,o,none⟩ u):=fun x cs T' hT hx=>by
 obtain ⟨cs',hb⟩:=h;exact hx.setOther u (hx.ne hb (fun e=>hT (by simp [e])))
theorem Keep.others {w w':World} {row:Option Nat} (hg:w.grownBy w' row) (hr:∀ r,row=some r→∃ o:Obj,w.heap[r]? =some o∧o.isCells=false):Keep [] w w':=fun b cs T _ h=>by
 unfold aA at *;rw [hg.block b (Array.getElem?_eq_some_iff.1 h).1 ?_]
 ·exact h
 ·intro e;obtain ⟨o,ho,hc⟩:=hr b e.symm;rw [h] at ho;cases ho
  cases hc
theorem Keep.grown {w w':World} {base k:Nat} {e:TypeId} {s:Nat} {v:Value} {xs:List Value} (hown:w.ownsRow base e s v k xs) (hg:w.grownBy w' v.ownBlock):Keep [e] w w':=fun b cs T hT h=>by
 unfold aA at *;rw [hg.block b (Array.getElem?_eq_some_iff.1 h).1 ?_]
 ·exact h
 ·intro he;obtain ⟨-, ⟨rfl, -⟩|⟨g,cap,cur,rfl, -, hgg, -⟩⟩:=hown
  ·cases he
  ·simp only [Value.ownBlock,Option.some.injEq] at he;subst he;rw [h] at hgg;cases hgg
   exact hT zi
theorem Row.kept {l:List TypeId} {w w':World} {T:TypeId} {v:Value} {xs:List Value} (h:Row w T v xs) (k:Keep l w w') (hT:T∉l):Row w' T v xs:=by
 obtain ⟨a,cap,h1,h2,h3,h4,h5⟩:=h;refine ⟨a,cap,h1,h2,h3,h4,fun ad had=>?_⟩;obtain ⟨h6,arr,h7,h8⟩:=h5 ad had;exact ⟨h6,arr,k _ _ _ hT h7,h8⟩
theorem aT.kept {l:List TypeId} {w w':World} {v:Value} {n:Nat} (h:aT w v n) (k:Keep l w w') (hT:22∉l):aT w' v n:=Row.kept h k hT
theorem bW.kept {l:List TypeId} {w w':World} {v:Value} {n:Int} (h:bW w v n) (k:Keep l w w') (hT:22∉l):bW w' v n:=by
 obtain ⟨pa,l,ca,h1,h2⟩:=h;exact ⟨pa,l,ca,h1,aT.kept h2 k hT⟩
theorem oK.kept {l:List TypeId} {f:Nat→Int} {w w':World} (k:Keep l w w') (hT:22∉l) (i:Nat) (x y:Value) (h:oK f w i x y):oK f w' i x y:=by
 obtain ⟨pa,l,ca,h1,h2,h3⟩:=h;exact ⟨pa,l,ca,h1,h2,aT.kept h3 k hT⟩
theorem iq.kept {l:List TypeId} {w w':World} {v:Value} {xs:List Int} (h:iq w v xs) (k:Keep l w w') (hT:22∉l) (W9:206∉l):iq w' v xs:=by
 obtain ⟨a,cap,h1,h2,h3,h4,h5⟩:=h;refine ⟨a,cap,h1,h2,h3,h4,fun ad had=>?_⟩;obtain ⟨h6,arr,h7,h8⟩:=h5 ad had;refine ⟨h6,arr,k _ _ _ W9 h7,fun i hi=>?_⟩;obtain ⟨x,y,k1,k2,k3⟩:=h8 i hi;exact ⟨x,y,k1,k2,oK.kept k hT _ _ _ k3⟩
theorem qM.kept {l:List TypeId} {w w':World} {T:TypeId} {v:Value} {xs:List Fr} (h:qM w T v xs) (k:Keep l w w') (hT:T∉l):qM w' T v xs:=by
 obtain ⟨a,cap,h1,h2,h3,h4,h5⟩:=h;refine ⟨a,cap,h1,h2,h3,h4,fun ad had=>?_⟩;obtain ⟨h6,arr,h7,h8⟩:=h5 ad had;exact ⟨h6,arr,k _ _ _ hT h7,h8⟩
theorem jM {l:List TypeId} {w w':World} {base k s:Nat} {e:TypeId} {v:Value} {xs:List Value} (h:w.ownsRow base e s v k xs) (hk:Keep l w w') (hT:e∉l):w'.ownsRow base e s v k xs:=by
 refine ⟨h.1,?_⟩
 rcases h.2 with hn|⟨g,cap,cur,rfl,hb,hgg,rest⟩
 ·exact .inl hn
 ·exact .inr ⟨g,cap,cur,rfl,hb,hk g cur e hT hgg,rest⟩
theorem uw {w w':World} {base k s:Nat} {e:TypeId} {v:Value} {xs:List Value} (h:w.ownsRow base e s v k xs) (hb:Below w.heap.size w w'):w'.ownsRow base e s v k xs:=jM (l:=[]) h (Keep.of_below hb) zi
def qN {α β:Type} (R:α→β→Prop) (xs:List α) (ys:List β):Prop:=ys.length=xs.length∧∀ i (h:i<xs.length) (h':i<ys.length),R xs[i] ys[i]
theorem qN.nil {α β:Type} {R:α→β→Prop}:qN R [] []:=⟨rfl,fun i h=>by cases h⟩
theorem qN.snoc {α β:Type} {R:α→β→Prop} {xs:List α} {ys:List β} {x:α} {y:β} (h:qN R xs ys) (hr:R x y):qN R (xs++[x]) (ys++[y]):=by
 obtain ⟨h1,h2⟩:=h;refine ⟨by simp [h1],fun i h h'=>?_⟩
 by_cases hi:i<xs.length
 ·rw [List.getElem_append_left hi,List.getElem_append_left zo];exact h2 i hi zo
 ·have e:i=xs.length:=by simp at h;omega
  subst e;rw [List.getElem_append_right (aG _),List.getElem_append_right zo]
  simpa using hr
theorem qN.mono {α β:Type} {R S:α→β→Prop} {xs:List α} {ys:List β} (h:qN R xs ys) (k:∀ x y,R x y→S x y):qN S xs ys:=⟨h.1,fun i a b=>k _ _ (h.2 i a b)⟩
def G9 (w:World) (v:Value) (xss:List (List Int)):Prop:=∃ rs,Row w 200 v rs∧qN (fun xs r=>iq w r xs) xss rs
def Ho (w:World) (v:Value) (ds:List Nat):Prop:=∃ rs,Row w 201 v rs∧qN (fun d r=>aT w r d) ds rs
theorem G9.later {w w':World} {v:Value} {xss:List (List Int)} (h:G9 w v xss) (hb:Below w.heap.size w w'):G9 w' v xss:=by
 obtain ⟨rs,h1,h2⟩:=h;exact ⟨rs,h1.later hb,h2.mono fun _ _ h=>h.later hb⟩
theorem Ho.later {w w':World} {v:Value} {ds:List Nat} (h:Ho w v ds) (hb:Below w.heap.size w w'):Ho w' v ds:=by
 obtain ⟨rs,h1,h2⟩:=h;exact ⟨rs,h1.later hb,h2.mono fun _ _ h=>h.later hb⟩
end Go.d9
namespace Go.d9
open Go Go.Num
def kL (r s:List Rat):Rat:=(List.zipWith (· * ·) r s).foldl (· + ·) 0
def wI (f:Nat→Int):Nat→Int
 | 0=>0
 | k+1=>wI f k+f k
def tu (f:Nat→Rat):Nat→Rat
 | 0=>0
 | k+1=>tu f k+f k
theorem og {f g:Nat→Rat}:∀ {n:Nat},(∀ i,i<n→f i=g i)→tu f n=tu g n
 | 0,_=>rfl
 | n+1,h=>by simp only [tu];rw [og (fun i hi=>h i zo),h n zo]
theorem BJ (f:Nat→Int) (d:Rat):∀ n,((wI f n:Int):Rat) / d=tu (fun i=>((f i:Int):Rat) / d) n
 | 0=>by simp [wI,tu,Rat.div_def]
 | n+1=>by
  simp only [wI,tu];rw [← BJ f d n,Rat.intCast_add,Rat.div_def,Rat.div_def,Rat.div_def,Rat.add_mul]
theorem FZ (xs:List Rat):xs.foldl (· + ·) 0=tu (fun i=>xs.getD i 0) xs.length:=by
 induction xs using qW with
 | h0=>rfl
 | h1 l a ih =>
  rw [List.foldl_append,ih,List.length_append,List.length_singleton];simp only [List.foldl_cons,List.foldl_nil,tu]
  congr 1
  ·exact og fun i hi=>by simp [hi,fq]
  ·simp
theorem ML {r s:List Rat} (h:s.length=r.length):kL r s=tu (fun i=>r.getD i 0*s.getD i 0) r.length:=by
 unfold kL;rw [FZ,List.length_zipWith,h,Nat.min_self]
 exact og fun i hi=>by
  have hs:i<s.length:=by omega
  simp [hi,hs,List.getElem?_zipWith]
theorem Xp {r s:List Rat} (h:s.length=r.length) :
  ((wI (fun i=>(r.map (kC (eO r))).getD i 0*(s.map (kC (eO s))).getD i 0) r.length:Int):Rat) / ((eO r*eO s:Nat):Rat)=kL r s:=by
 rw [ML h,BJ];refine og fun i hi=>?_;have hs:i<s.length:=by omega
 obtain ⟨hr1,hr2⟩:=lZ r;obtain ⟨hs1,hs2⟩:=lZ s;have e1:=KJ hr1 (hr2 r[i] (bN hi));have e2:=KJ hs1 (hs2 s[i] (bN hs));have g1:(r.map (kC (eO r))).getD i 0=kC (eO r) r[i]:=by simp [hi]
 have g2:(s.map (kC (eO s))).getD i 0=kC (eO s) s[i]:=by simp [hs]
 have g3:r.getD i 0=r[i]:=by simp [hi]
 have g4:s.getD i 0=s[i]:=by simp [hs]
 rw [g1,g2,g3,g4,Rat.intCast_mul,Rat.natCast_mul];have n1:((eO r:Nat):Rat)≠0:=by rw [Ne,Rat.natCast_eq_zero_iff];omega
 have n2:((eO s:Nat):Rat)≠0:=by rw [Ne,Rat.natCast_eq_zero_iff];omega
 generalize ((kC (eO r) r[i]:Int):Rat)=a at *;generalize ((kC (eO s) s[i]:Int):Rat)=b at *;generalize ((eO r:Nat):Rat)=c at *;generalize ((eO s:Nat):Rat)=d at *;rw [← e1,← e2]
 grind
theorem yj {qs:List Rat} (h:∀ q∈qs,iG q=true) (hl:qs.length≤4) (i:Nat):sz 1000000000 ((qs.map (kC (eO qs))).getD i 0).natAbs≤1000:=by
 by_cases hi:i<qs.length
 ·have g1:(qs.map (kC (eO qs))).getD i 0=kC (eO qs) qs[i]:=by simp [hi]
  rw [g1];unfold kC;have h1:=lS qs[i].num (eO qs / qs[i].den);have h2:=(jH (h _ (bN hi))).1;have h3:= @iF (eO qs) qs[i].den;have h4:=yt qs h;omega
 ·have g1:(qs.map (kC (eO qs))).getD i 0=0:=by
   rw [bJ,List.getElem?_eq_none (by rw [List.length_map];omega)];rfl
  rw [g1];simp [uJ]
def quo (z y:Int):Int:=Mem.iZ (z.natAbs / y.natAbs) (decide (z<0) != decide (y<0))
def ad6 (xs ys:List Int) (k:Nat) (d:Int) (j:Nat):Int:=quo (ys.getD k 0*xs.getD j 0+ -(xs.getD k 0*ys.getD j 0)) d
def comb (xs ys:List Int) (k:Nat) (d:Int):List Int:=(bI xs.length).map (ad6 xs ys k d)
abbrev IM:=List (List Int)
def IM.at (rs:IM) (i j:Nat):Int:=(rs.getD i []).getD j 0
def pick (rs:IM) (k:Nat):Option Nat:=(bI rs.length).find? fun i=>decide (k≤i)&& !decide (rs.at i k=0)
def Uy (rs:IM) (i k:Nat):IM:=(rs.set i (rs.getD k [])).set k (rs.getD i [])
def Qr (rs:IM) (k:Nat) (p:Int) (i:Nat):List Int:=if i=k then rs.getD i [] else comb (rs.getD i []) (rs.getD k []) k p
def Qs (rs:IM) (k:Nat) (p:Int):IM:=(bI rs.length).map (Qr rs k p)
def elim:Nat→Nat→IM→Int→Bool→Int × Bool × IM
 | 0,_,rs,p,t=>(p,t,rs)
 | m+1,k,rs,p,t=>match pick rs k with
  | none=>(0,false,rs)
  | some i=>elim m (k+1) (Qs (if i=k then rs else Uy rs i k) k p) ((if i=k then rs else Uy rs i k).at k k) (if i=k then t else !t)
def IM.fits (rs:IM) (n c S:Nat):Prop:=rs.length=n∧(∀ i,i<n→(rs.getD i []).length=c)∧∀ i j,sz 1000000000 (rs.at i j).natAbs≤S
def ext (rs:IM):IM:=(bI rs.length).map fun i=>(bI (2*rs.length)).map fun j=>if j<rs.length then rs.at i j else if j=rs.length+i then 1 else 0
theorem IM.fits.mono {rs:IM} {n c S S':Nat} (h:rs.fits n c S) (k:S≤S'):rs.fits n c S':=⟨h.1,h.2.1,fun i j=>ay (h.2.2 i j) k⟩
end Go.d9
