/- Lemmas for the proof. No condition. -/
import Derived.Test.YtlpjmogillpnbaaGreatDoorTB12
import Derived.RangeFuncBox
import Derived.RangeFuncLeaves
import Derived.RangeFuncFrom
import Derived.RangeFuncNested
import Derived.RangeFuncBound
import Derived.RangeFuncCalls
import Derived.Shelf.Abstract
import Derived.OwnWalkIn
import Derived.TacticsInMore
import Derived.LoopNIn
import Derived.LoopIn
set_option linter.unusedVariables false
set_option linter.unusedSimpArgs false
set_option maxRecDepth 100000
set_option maxHeartbeats 16000000
open Bool renaming and_eq_true → aF, eq_iff_iff → gN
open Go.Ending renaming returned → ah
open Go.IntKind renaming i64 → I
open Go.Value renaming agg → au, bool → ay, int → Z, pointer → aA, slice → aj, string → O
open List renaming cons_append → cZ, getElem?_append_left → dP, getElem_mem → eX, length_cons → aZ, range → bO, replicate → bD
open List.cons renaming injEq → iE
open Nat renaming le_refl → aI, le_trans → aB, lt_of_lt_of_le → aL, zero_add → dw
namespace Go.Proofs.aQ
open Go Go.RowKit Go.SW Go.Num Go.Mem Go.Proofs Go.gW
def VX (a b:Int × Int) (k:Nat):Int × Bool:=vW (JG a k) (FQ b k) 1000000000000 false
def Bo (a b:Int × Int) (k:Nat):Int × Bool:=vW (JG a k) (FQ b k) 1000000000000 true
def ae3 (a b:Int × Int):Bool:=(bO 4).all fun k=>(VX a b k).2&&(Bo a b k).2
def PI (a b:Int × Int):(Int × Int) × Int:=if ae3 a b then iH ([(VX a b 0).1,(VX a b 1).1,(VX a b 2).1,(VX a b 3).1].foldl min (VX a b 0).1) ([(Bo a b 0).1,(Bo a b 1).1,(Bo a b 2).1,(Bo a b 3).1].foldl max (Bo a b 0).1) else ((0,0),6)
def jo (a b:Int × Int):(Int × Int) × Int:=if okB [a,b] then PI a b else ((0,0),30)
theorem Jz (x y z t:Int) (hx:x.natAbs≤1000000000000000000) (hy:y.natAbs≤1000000000000000000) (hz:z.natAbs≤1000000000000000000) (ht:t.natAbs≤1000000000000000000) (w:World) :
  Calls Tryz.prog 171 #[au #[Z I x,Z I y],au #[Z I z,Z I t],.func (.func 174) #[] #[]] w (fun e w'=>e= ah (dH (PI (x,y) (z,t)))∧Below w.heap.size w w'):=by
 have hpx:∀ k,(JG (x,y) k).natAbs≤1000000000000000000:=fun k=>by unfold JG;split<;>assumption
 have hpy:∀ k,(FQ (z,t) k).natAbs≤1000000000000000000:=fun k=>by unfold FQ;split<;>assumption
 exact rP (fun x y up=>vW x y 1000000000000 up) 174 #[] x y z t w (fun k up W _=>Rk _ _ up (hpx k) (hpy k) W) (fun args W=>by rfl)
theorem Rl (x y z t:Int) (h0:okB [(x,y),(z,t)]=true) (b c:Nat) (w:World) (h:aC w b #[Z I x,Z I y] 35) (k:aC w c #[Z I z,Z I t] 35) :
  Calls Tryz.prog 173 #[aA (some ⟨b,0,none⟩),aA (some ⟨c,0,none⟩)] w (fun e w'=>e= ah (dH (PI (x,y) (z,t)))∧Below w.heap.size w w'):=by
 have h0':jc x y=true∧jc z t=true:=by simpa [okB] using h0
 obtain ⟨hk1,hk2,hk3⟩: -1000000000000000000≤x∧x≤y∧y≤1000000000000000000:=by simpa [jc] using h0'.1
 obtain ⟨hk4,hk5,V8⟩: -1000000000000000000≤z∧z≤t∧t≤1000000000000000000:=by simpa [jc] using h0'.2
 have H:=zh (fun W=>Jz x y z t zo zo zo zo W);generalize PI (x,y) (z,t)=m at *;obtain ⟨⟨m1,m2⟩,m3⟩:=m;unfold dH at *;simp only at *;have cb:=h.cell;have lb:=h.lt;have cc:=k.cell;have lc:=k.lt;clear h k h0 h0' hk1 hk2 hk3 hk4 hk5 V8;go_enter Tryz.func173,Tryz.ntmps173
 go_wp2_with fail
 refine (H.out _).mono ?_;rintro e w1 ⟨rfl,hb1⟩;have hx:=aC.later (aC.new w #[Z I 0,Z I 0] 35) hb1;have cx:=hx.cell;have fx:=hx.free;have lx:=hx.lt;have hw:=Bt (show Below w.heap.size w (w.alloc (.cells #[Z I 0,Z I 0] 35)) from aN) hb1;go_wp2_with fail
 refine aY rfl rfl bf Tryz.underlying35 rfl zk ?_;exact ⟨rfl,aN⟩
theorem yU (x y z t:Int) (w:World):Calls Tryz.prog 125 #[au #[Z I x,Z I y],au #[Z I z,Z I t]] w (fun e w'=>e= ah (dH (jo (x,y) (z,t)))∧Below w.heap.size w w'):=by
 have H:Hid (∀ W b c d,aC W b #[Z I x,Z I y] 35→aC W c #[Z I z,Z I t] 35→aC W d #[Z I x,Z I y,Z I z,Z I t] 35→Calls Tryz.prog 163 #[.func (.func 173) #[] #[aA (some ⟨b,0,none⟩),aA (some ⟨c,0,none⟩)],aj (some ⟨d,0,none⟩) 2 2] W (fun e w'=>e= ah (dH (jo (x,y) (z,t)))∧Below W.heap.size W w')):=zh fun W b c d h1 h2 h3 =>
  jk 173 #[aA (some ⟨b,0,none⟩),aA (some ⟨c,0,none⟩)] _ _ _ _ W (qX.two h3) (fun h W' hW'=>Rl x y z t h b c W' (h1.later hW') (h2.later hW')) (fun args W=>by rfl)
 generalize jo (x,y) (z,t)=m at *;obtain ⟨⟨m1,m2⟩,m3⟩:=m;unfold dH at *;simp only at *;go_enter Tryz.func125,Tryz.ntmps125
 go_wp2_with fail
 obtain ⟨wx,EW,hz,X,Y,R,bZ⟩:=YQ w #[Z I x,Z I y] 35 #[Z I z,Z I t] 35 #[Z I 0,Z I 0] 35 #[Z I x,Z I y,Z I z,Z I t] 35;rw [EW];clear EW;have HB:=zh hz;clear hz;refine (H.out _ _ _ _ X.out Y.out bZ.out).mono ?_;rintro e w1 ⟨rfl,hb1⟩;replace R:=R.bl hb1;replace HB:=zh (Bt HB.out hb1);clear hb1 H;have hx:=R.out;have cx:=hx.cell;have fx:=hx.free;have lx:=hx.lt;have hw:=HB.out;go_wp2_with fail
 refine aY rfl rfl bf Tryz.underlying35 rfl zk ?_;exact ⟨rfl,aN⟩
def gU (a b:Int × Int):(Int × Int) × Int:=if okB [a,b] then iH (a.1+b.1) (a.2+b.2) else ((0,0),30)
theorem RN (x y z t:Int) (h0:okB [(x,y),(z,t)]=true) (b c:Nat) (w:World) (h:aC w b #[Z I x,Z I y] 35) (k:aC w c #[Z I z,Z I t] 35) :
  Calls Tryz.prog 165 #[aA (some ⟨b,0,none⟩),aA (some ⟨c,0,none⟩)] w (fun e w'=>e= ah (dH (iH (x+z) (y+t)))∧Below w.heap.size w w'):=by
 have h0':jc x y=true∧jc z t=true:=by simpa [okB] using h0
 obtain ⟨hk1,hk2,hk3⟩: -1000000000000000000≤x∧x≤y∧y≤1000000000000000000:=by simpa [jc] using h0'.1
 obtain ⟨hk4,hk5,V8⟩: -1000000000000000000≤z∧z≤t∧t≤1000000000000000000:=by simpa [jc] using h0'.2
 have H:=zh (fun W=>kK (x+z) (y+t) W);generalize iH (x+z) (y+t)=m at *;obtain ⟨⟨m1,m2⟩,m3⟩:=m;unfold dH at *;simp only at *;have cb:=h.cell;have lb:=h.lt;have cc:=k.cell;have lc:=k.lt;clear h k h0 h0';go_enter Tryz.func165,Tryz.ntmps165
 go_wp2_with fail
 refine (H.out _).mono ?_;rintro e w1 ⟨rfl,hb1⟩;have hx:=aC.later (aC.new w #[Z I 0,Z I 0] 35) hb1;have cx:=hx.cell;have fx:=hx.free;have lx:=hx.lt;have hw:=Bt (show Below w.heap.size w (w.alloc (.cells #[Z I 0,Z I 0] 35)) from aN) hb1;go_wp2_with fail
 refine aY rfl rfl bf Tryz.underlying35 rfl zk ?_;exact ⟨rfl,aN⟩
theorem zl (x y z t:Int) (w:World):Calls Tryz.prog 121 #[au #[Z I x,Z I y],au #[Z I z,Z I t]] w (fun e w'=>e= ah (dH (gU (x,y) (z,t)))∧Below w.heap.size w w'):=by
 have H:Hid (∀ W b c d,aC W b #[Z I x,Z I y] 35→aC W c #[Z I z,Z I t] 35→aC W d #[Z I x,Z I y,Z I z,Z I t] 35→Calls Tryz.prog 163 #[.func (.func 165) #[] #[aA (some ⟨b,0,none⟩),aA (some ⟨c,0,none⟩)],aj (some ⟨d,0,none⟩) 2 2] W (fun e w'=>e= ah (dH (gU (x,y) (z,t)))∧Below W.heap.size W w')):=zh fun W b c d h1 h2 h3 =>
  jk 165 #[aA (some ⟨b,0,none⟩),aA (some ⟨c,0,none⟩)] _ _ _ _ W (qX.two h3) (fun h W' hW'=>RN x y z t h b c W' (h1.later hW') (h2.later hW')) (fun args W=>by rfl)
 generalize gU (x,y) (z,t)=m at *;obtain ⟨⟨m1,m2⟩,m3⟩:=m;unfold dH at *;simp only at *;go_enter Tryz.func121,Tryz.ntmps121
 go_wp2_with fail
 obtain ⟨wx,EW,hz,X,Y,R,bZ⟩:=YQ w #[Z I x,Z I y] 35 #[Z I z,Z I t] 35 #[Z I 0,Z I 0] 35 #[Z I x,Z I y,Z I z,Z I t] 35;rw [EW];clear EW;have HB:=zh hz;clear hz;refine (H.out _ _ _ _ X.out Y.out bZ.out).mono ?_;rintro e w1 ⟨rfl,hb1⟩;replace R:=R.bl hb1;replace HB:=zh (Bt HB.out hb1);clear hb1 H;have hx:=R.out;have cx:=hx.cell;have fx:=hx.free;have lx:=hx.lt;have hw:=HB.out;go_wp2_with fail
 refine aY rfl rfl bf Tryz.underlying35 rfl zk ?_;exact ⟨rfl,aN⟩
def pU (a b:Int × Int):(Int × Int) × Int:=if okB [a,b] then iH (a.1 - b.2) (a.2 - b.1) else ((0,0),30)
theorem Rj (x y z t:Int) (h0:okB [(x,y),(z,t)]=true) (b c:Nat) (w:World) (h:aC w b #[Z I x,Z I y] 35) (k:aC w c #[Z I z,Z I t] 35) :
  Calls Tryz.prog 164 #[aA (some ⟨b,0,none⟩),aA (some ⟨c,0,none⟩)] w (fun e w'=>e= ah (dH (iH (x - t) (y - z)))∧Below w.heap.size w w'):=by
 have h0':jc x y=true∧jc z t=true:=by simpa [okB] using h0
 obtain ⟨hk1,hk2,hk3⟩: -1000000000000000000≤x∧x≤y∧y≤1000000000000000000:=by simpa [jc] using h0'.1
 obtain ⟨hk4,hk5,V8⟩: -1000000000000000000≤z∧z≤t∧t≤1000000000000000000:=by simpa [jc] using h0'.2
 have H:=zh (fun W=>kK (x - t) (y - z) W);generalize iH (x - t) (y - z)=m at *;obtain ⟨⟨m1,m2⟩,m3⟩:=m;unfold dH at *;simp only at *;have cb:=h.cell;have lb:=h.lt;have cc:=k.cell;have lc:=k.lt;clear h k h0 h0';go_enter Tryz.func164,Tryz.ntmps164
 go_wp2_with fail
 refine (H.out _).mono ?_;rintro e w1 ⟨rfl,hb1⟩;have hx:=aC.later (aC.new w #[Z I 0,Z I 0] 35) hb1;have cx:=hx.cell;have fx:=hx.free;have lx:=hx.lt;have hw:=Bt (show Below w.heap.size w (w.alloc (.cells #[Z I 0,Z I 0] 35)) from aN) hb1;go_wp2_with fail
 refine aY rfl rfl bf Tryz.underlying35 rfl zk ?_;exact ⟨rfl,aN⟩
theorem GK (x y z t:Int) (w:World):Calls Tryz.prog 120 #[au #[Z I x,Z I y],au #[Z I z,Z I t]] w (fun e w'=>e= ah (dH (pU (x,y) (z,t)))∧Below w.heap.size w w'):=by
 have H:Hid (∀ W b c d,aC W b #[Z I x,Z I y] 35→aC W c #[Z I z,Z I t] 35→aC W d #[Z I x,Z I y,Z I z,Z I t] 35→Calls Tryz.prog 163 #[.func (.func 164) #[] #[aA (some ⟨b,0,none⟩),aA (some ⟨c,0,none⟩)],aj (some ⟨d,0,none⟩) 2 2] W (fun e w'=>e= ah (dH (pU (x,y) (z,t)))∧Below W.heap.size W w')):=zh fun W b c d h1 h2 h3 =>
  jk 164 #[aA (some ⟨b,0,none⟩),aA (some ⟨c,0,none⟩)] _ _ _ _ W (qX.two h3) (fun h W' hW'=>Rj x y z t h b c W' (h1.later hW') (h2.later hW')) (fun args W=>by rfl)
 generalize pU (x,y) (z,t)=m at *;obtain ⟨⟨m1,m2⟩,m3⟩:=m;unfold dH at *;simp only at *;go_enter Tryz.func120,Tryz.ntmps120
 go_wp2_with fail
 obtain ⟨wx,EW,hz,X,Y,R,bZ⟩:=YQ w #[Z I x,Z I y] 35 #[Z I z,Z I t] 35 #[Z I 0,Z I 0] 35 #[Z I x,Z I y,Z I z,Z I t] 35;rw [EW];clear EW;have HB:=zh hz;clear hz;refine (H.out _ _ _ _ X.out Y.out bZ.out).mono ?_;rintro e w1 ⟨rfl,hb1⟩;replace R:=R.bl hb1;replace HB:=zh (Bt HB.out hb1);clear hb1 H;have hx:=R.out;have cx:=hx.cell;have fx:=hx.free;have lx:=hx.lt;have hw:=HB.out;go_wp2_with fail
 refine aY rfl rfl bf Tryz.underlying35 rfl zk ?_;exact ⟨rfl,aN⟩
end Go.Proofs.aQ
namespace Go.Mem
open Go Go.RowKit Go.SW Go.Num
def Nm (w:World) (v:Value) (n:Nat):Prop:=Row w 3 v (ints (dF 10000 n))
theorem Nm.later {w w':World} {v:Value} {n:Nat} (h:Nm w v n) (hb:Below w.heap.size w w'):Nm w' v n:=Row.later h hb
theorem Nm.setOther {w:World} {v:Value} {n:Nat} (h:Nm w v n) {b:Nat} {cs:Array Value} {T':TypeId} (hx:aC w b cs T') (hT:3≠T') (o:Nat) (u:Value):Nm (w.setCell ⟨b,o,none⟩ u) v n:=Row.setOther h hx hT o u
def Gs (w:World) (v:Value) (l:List Nat):Prop:=Row w 3 v (ints l)
theorem Gs.later {w w':World} {v:Value} {l:List Nat} (h:Gs w v l) (hb:Below w.heap.size w w'):Gs w' v l:=Row.later h hb
theorem Gs.cases {w:World} {v:Value} {l:List Nat} (h:Gs w v l) :
  (v= aj none 0 0∧l=[])∨∃ b off cap,v= aj (some ⟨b,off,none⟩) l.length cap∧l.length≤cap∧cap≤9223372036854775807∧b<w.heap.size∧(∃ arr,aC w b arr 3)∧∀ i,i<l.length→w.cell? ⟨b,off+i,none⟩=some (.int .i64 (l.getD i 0:Nat)):=by
 rcases Row.cases h with ⟨h1,h2⟩|⟨b,off,cap,arr,h1,h2,h3,h4,h5⟩
 ·refine .inl ⟨h1,?_⟩;unfold ints at h2
  simpa using h2
 ·refine .inr ⟨b,off,cap,by rw [h1,bQ],by rwa [bQ] at h2,h3,h4.lt,⟨arr,h4⟩,fun i hi=>?_⟩;rw [h4.cell,h5 i (by rw [bQ];exact hi)];simp [ints,hi]
theorem Gs.read {w:World} {v:Value} {l:List Nat} (h:Gs w v l) :
  ∃ a cap,v= aj a l.length cap∧l.length≤cap∧cap≤9223372036854775807∧∀ k,k<l.length→∃ b off,a=some ⟨b,off,none⟩∧b<w.heap.size∧w.cell? ⟨b,off+k,none⟩=some (.int .i64 (l.getD k 0:Nat)):=by
 rcases Gs.cases h with ⟨rfl,rfl⟩|⟨b,off,cap,rfl,h1,h2,h3,_,h5⟩
 ·exact ⟨none,0,rfl,by simp,by simp,fun k hk=>by cases hk⟩
 ·exact ⟨some ⟨b,off,none⟩,cap,rfl,h1,h2,fun k hk=>⟨b,off,rfl,h3,h5 k hk⟩⟩
theorem Nm.MI {w:World} {v:Value} {l:List Nat} (h:Gs w v l) (hd:fD 10000 l) (ht:Top l):Nm w v (val 10000 l):=by
 unfold Nm;rw [yI zo hd ht];exact h
theorem Nm.gs {w:World} {v:Value} {n:Nat} (h:Nm w v n):Gs w v (dF 10000 n):=h
theorem Gs.iA {w:World} {base k:Nat} {v:Value} {s:List Nat} (h:w.ownsRow base 3 1 v k (ints s)):Gs w v s:=Row.iA h
theorem uU (n:Nat):(madeCells #[Value.int .i64 0] n).toList=ints (bD n 0):=by
 rw [toList_madeCells_one];simp [ints]
theorem ints_set (l:List Nat) (k d:Nat):(ints l).set k (Z I (d:Int))=ints (l.set k d):=by simp [ints,List.map_set]
theorem qx {l:List Nat} {k:Nat} (h:k<l.length):(ints l)[k]? =some (.int .i64 (l.getD k 0:Nat)):=by simp [ints,h]
theorem Gs.qm {w:World} {g n m:Nat} {l post:List Nat} (h:aC w g (ints (l++post)).toArray 3) (hl:l.length=n) (hm:n≤m) (hm2:m≤9223372036854775807):Gs w (aj (some ⟨g,0,none⟩) n m) l:=by
 refine Row.mk (by rw [bQ];omega) (by rw [bQ];omega) hm2 h fun i hi=>?_;rw [bQ] at hi;rw [dw,List.getElem?_toArray];simp [ints,hi,dP]
theorem Nm.zero (w:World):Nm w (aj none 0 0) 0:=by unfold Nm;rw [gG];exact Row.nil _ _
theorem ints_oneCell (l:List Nat):∀ v∈ints l,v.oneCell'=true:=fun v hv=>by
 obtain ⟨d,_,rfl⟩:=List.mem_map.1 hv;rfl
theorem Nm.slice {w:World} {v:Value} {n:Nat} (h:Nm w v n):∃ pa l ca,v= aj pa l ca:=by
 obtain ⟨a,cap,h1, -⟩:=h;exact ⟨_,_,_,h1⟩
def Pl (w:World) (v:Value) (z:Int):Prop:=∃ pa l ca,v= au #[ay (decide (z<0)),aj pa l ca]∧Nm w (aj pa l ca) z.natAbs
theorem Pl.later {w w':World} {v:Value} {z:Int} (h:Pl w v z) (hb:Below w.heap.size w w'):Pl w' v z:=by
 obtain ⟨pa,l,ca,h1,h2⟩:=h;exact ⟨pa,l,ca,h1,h2.later hb⟩
theorem Pl.mk {w:World} {m:Value} {z:Int} {b:Bool} {n:Nat} (h:Nm w m n) (hn:n=z.natAbs) (hb:b=decide (z<0)):Pl w (au #[ay b,m]) z:=by
 obtain ⟨pa,l,ca,rfl⟩:=h.slice;exact ⟨pa,l,ca,by rw [hb],hn ▸ h⟩
theorem Pl.cast {w:World} {v:Value} {y z:Int} (h:Pl w v y) (e:y=z):Pl w v z:=e ▸ h
theorem Nm.alloc {w:World} {v:Value} {n:Nat} (h:Nm w v n) (o:Obj):Nm (w.alloc o) v n:=h.later ((Below.refl _ _).alloc (aI _) _)
theorem Gs.alloc {w:World} {v:Value} {n:List Nat} (h:Gs w v n) (o:Obj):Gs (w.alloc o) v n:=h.later ((Below.refl _ _).alloc (aI _) _)
theorem Pl.agg {w:World} {v:Value} {z:Int} (h:Pl w v z):∃ b pa l ca,v= au #[ay b,aj pa l ca]:=by
 obtain ⟨pa,l,ca,h1, -⟩:=h;exact ⟨_,_,_,_,h1⟩
theorem Pl.setOther {w:World} {v:Value} {z:Int} (h:Pl w v z) {b:Nat} {cs:Array Value} {T':TypeId} (hx:aC w b cs T') (hT:3≠T') (o:Nat) (u:Value):Pl (w.setCell ⟨b,o,none⟩ u) v z:=by
 obtain ⟨pa,l,ca,h1,h2⟩:=h;exact ⟨pa,l,ca,h1,h2.setOther hx hT o u⟩
theorem Pl.set2 {w:World} {v:Value} {z:Int} (h:Pl w v z) {b:Nat} {cs:Array Value} {T':TypeId} (hx:aC w b cs T') (hT:3≠T') (o1 o2:Nat) (u1 u2:Value):Pl ((w.setCell ⟨b,o1,none⟩ u1).setCell ⟨b,o2,none⟩ u2) v z :=
 (h.setOther hx hT o1 u1).setOther (hx.set o1 u1) hT o2 u2
theorem Pl.nm {w:World} {b:Bool} {pa:Option Addr} {l ca:Nat} {z:Int} (h:Pl w (au #[ay b,aj pa l ca]) z):Nm w (aj pa l ca) z.natAbs∧b=decide (z<0):=by
 obtain ⟨pa',l',Pb,e,h2⟩:=h;simp only [Value.agg.injEq,Array.mk.injEq,iE,Value.bool.injEq,and_true] at e;obtain ⟨e1,e2⟩:=e;rw [e2];exact ⟨h2,e1⟩
theorem LX (z:Int):iM z.natAbs (!decide (z<0))= -z:=Ih z
theorem L6 (z:Int):iM z.natAbs (decide (z<0))=z:=by
 unfold iM
 by_cases h:z<0<;>simp [h]<;>omega
theorem L8 (n:Nat) (b:Bool):(b&&decide (0<n))=decide (iM n b<0):=by
 rw [← Ii,gN];simp
 omega
theorem Nm.read {w:World} {v:Value} {n:Nat} (h:Nm w v n):∃ a cap,v= aj a (sz 10000 n) cap∧sz 10000 n≤cap∧cap≤9223372036854775807∧∀ k,k<sz 10000 n→∃ b off,a=some ⟨b,off,none⟩∧b<w.heap.size∧w.cell? ⟨b,off+k,none⟩=some (.int .i64 ((dF 10000 n).getD k 0:Nat)):=Gs.read h.gs
theorem Nm.ac5 {w:World} {pa:Option Addr} {l c n:Nat} (h:Nm w (aj pa l c) n) (hn:0<n):0<l:=by
 obtain ⟨a,cap,e, -⟩:=h.read;simp only [Value.slice.injEq] at e;rw [e.2.1];unfold sz;rw [List.length_pos_iff,Ne,lF zo];omega
theorem Nm.ac6 {w:World} {pa:Option Addr} {l c n:Nat} (h:Nm w (aj pa l c) n) (hn:n=0):l=0:=by
 obtain ⟨a,cap,e, -⟩:=h.read;simp only [Value.slice.injEq] at e;rw [e.2.1,hn,wF]
end Go.Mem
namespace Go.Proofs.light
open Go Go.RowKit Go.SW Go.Num Go.Mem Go.Proofs Go.Dec Go.gW
structure uF where
 x:Fr
 y:Fr
 z:Fr
deriving DecidableEq
def uF.cells (t:uF):Array Value:=#[O t.x.n,O t.x.d,O t.y.n,O t.y.d,O t.z.n,O t.z.d]
def uF.v (t:uF):Value:=au t.cells
def uF.get (t:uF) (i:Nat):Fr:=if i=0 then t.x else if i=1 then t.y else t.z
end Go.Proofs.light
namespace Go.Proofs.iR
open Go Go.RowKit Go.SW Go.Num Go.Mem Go.Proofs Go.Dec Go.gW
def q2 (n d:Int):Rat:=(n:Rat) / (d:Rat)
def tq (x y z d:Int):light.uF:=⟨Fr.of (q2 x d),Fr.of (q2 y d),Fr.of (q2 z d)⟩
end Go.Proofs.iR
namespace Go.Fx
open Go Go.RowKit Go.SW Go.Mem Go.Proofs
section
variable {P:Program} {n:Nat} {fn:Func} {T:Int→Ending} {w0:World} {V:Value} {k:Int} {p:Pos} {S:Sl} {L:Mm}
theorem pG {R:Post} {c:List PanicEntry} {w:World} (h:R (.panic c) S w):∀ ks:List Kt,Cont P n R ks (.panic c) S w
 | []=>h
 | x::ks=>by cases x<;>exact pG h ks
theorem aM (hT:∀ k,∃ c,T k= .panicked c) (hs:List Nat) (d:Nat) (St:Sl) (U:List (Nat × Array Value)) {f:FuncId} {args:Array Value} {v:Value} {k1:Int} {A:Prop} (hC:∀ w,Mem w0 [] (upd L U) w→Calls P f args w (yR T w v k1)) (hn:(k1=0∧A)∨(k1≠0∧k=k1))
  (hc:k1=0→A→G P n (Ends P n fn (yR T w0 V k)) w0 [] (tr 4000 hs p).2.past ((d,v)::(St++S)) (upd L U))
  (h:yZ P n w0 (tr 4000 hs p).1 S L St (upd L U):=by intro _;kernel_rfl) (hx:∀ w,nR P n w (rG P n w0 (tr 4000 hs p).1 S L) (tr 4000 hs p).2=some (d,f,args,w):=by intro _;kernel_rfl):G P n (Ends P n fn (yR T w0 V k)) w0 [] p S L:=by
 refine O7 hs St _ h ?_;have hsub:=h.sub;have hh:=ou (hx w0);generalize rG P n w0 (tr 4000 hs p).1 S L=F at hx hsub ⊢;generalize (tr 4000 hs p).2=q at hc hx hh;generalize upd L U=L at hC hc;generalize St++S=S at hc hsub;obtain ⟨ops,o,hn',hf,hw,hd,hlt, -⟩:=iX (h:=hx w0);refine place hn' hf hw (Y:=fun N H w a a' w1=>a'=a.put (some d) v∧Below w.heap.size w w1∧k1=0∧A) (fun w N H hM hok a ha K hK ks=>?_) fun w N H hM hok a a' w' ha hy=>?_
 ·obtain ⟨ops',o',hn2, -, -, -, -, hr⟩:=iX (h:=hx w);rw [hn'] at hn2;cases hn2
  unfold Oper.wp;rw [ha.exec hf,hr];simp only [Oper.upon];refine (hC w hM).mono fun e w' he=>?_;obtain ⟨hb,⟨h1,rfl⟩|⟨h1,rfl⟩⟩:=he
  ·rw [hd]
   rcases hn with ⟨-, hA⟩|⟨h2, -⟩
   ·exact hK _ _ ⟨rfl,hb,h1,hA⟩
   ·exact absurd h1 h2
  ·obtain ⟨c,hc'⟩:=hT k1
   rcases hn with ⟨h2, -⟩|⟨h2,h3⟩
   ·exact absurd h2 h1
   ·rw [hc'];refine ⟨ha.defers,F,pG ?_ ks⟩
    show yR T w0 V k (.panicked c) w'
    exact ⟨Bt hM.below hb,.inr ⟨by rw [h3];exact h1,by rw [h3,hc']⟩⟩
 ·obtain ⟨rfl,h1,h2,h3⟩:=hy;exact ⟨fun _ _ _ _ _ _=>.of h1,_,ha.put hlt v,((hc h2 h3).of (kD hsub d v) hh).out w' N H (hM.later h1) (wI hok (fun _=>rfl) rfl)⟩
def Iu (P:Program) (w:World) (S:Sl) (p:Pos):Option (Value × World):=match p with
 | .reg ops (i:: _) _=>(match ops[i]? with
  | some o=>(match fit ops S o,Region.wanted o (yl ops S) with
   | true,true=>(match (execOp (ev S) o).run P w with
    | .halt (.panic v) w'=>some (v,w')
    | _=>none)
   | _,_=>none)
  | none=>none)
 | _=>none
theorem panics (m:Nat) (hs:List Nat) (U:List (Nat × Array Value)) {E:Ending→World→Prop} {v:Value} (hE:∀ w,Mem w0 [] (upd L U) w→E (.panicked [{ v,recovered:=false }]) w)
  (h:BS P n w0 (tr m hs p).1 S L (upd L U):=by intro _;kernel_rfl) (hx:∀ w,Iu P w (rG P n w0 (tr m hs p).1 S L) (tr m hs p).2=some (v,w):=by intro _;kernel_rfl):G P n (Ends P n fn E) w0 [] p S L:=by
 refine Sg hs _ h ?_;generalize rG P n w0 (tr m hs p).1 S L=S at hx ⊢;generalize (tr m hs p).2=q at hx;generalize upd L U=L at hE;refine ⟨fun w N H hM hok=>?_⟩;have h1:=hx w;unfold Iu at h1;split at h1
 ·rename_i ops i is ks;split at h1
  ·rename_i o ho;split at h1
   ·rename_i hf hw;split at h1
    ·rename_i v' w' hr;cases h1
     intro a ha;unfold wpOps;simp only [ho,ha.wanted (kN hf)];rw [if_pos hw];refine .inl ?_;unfold Oper.wp;rw [ha.exec hf,hr];exact ⟨ha.defers,S,pG (hE w hM) ks⟩
    ·cases h1
   ·cases h1
  ·cases h1
 ·cases h1
end
end Go.Fx
namespace Go.Num
def oN (l:List Nat):Nat:=(l.map fun x=>x^2).sum
def nlo (l:List Nat):Nat:=eH 2 (oN l)
def nhi (l:List Nat):Nat:=if nlo l^2=oN l then nlo l else nlo l+1
theorem LW (x:Nat) (l:List Nat):oN (x::l)=x^2+oN l:=rfl
theorem xC (a b:List Nat):oN (a++b)=oN a+oN b:=by
 unfold oN;rw [List.map_append,List.sum_append]
end Go.Num
namespace Go.Num
def Ca (b:Int × Int):Nat:=(max b.1 (max (-b.2) 0)).toNat
def Bw (b:Int × Int):Nat:=(max (-b.1) b.2).toNat
def rX (l:List Nat) (up:Bool):Int × Int:=if nlo l≤10^18 then (((if up then nhi l else nlo l:Nat):Int),0) else (0,6)
theorem Qj {l:List Nat} {up:Bool} (h:nlo l≤10^18):rX l up=(((nlo l:Nat):Int)+(if (up&& !(decide (nlo l^2=oN l))) then 1 else 0),0):=by
 unfold rX nhi;rw [if_pos h]
 by_cases e:nlo l^2=oN l<;>cases up<;>simp [e]
end Go.Num
namespace Go.Proofs.power
open Go Go.RowKit Go.Shelf Go.SW Go.Num Go.Mem Go.Proofs Go.Dec Go.gW Go.Proofs.aQ
attribute [local go_sem] Oper.semAt_some
theorem Rc {lo hi:Int} (h:jc lo hi=true):nT lo hi=((((Ca (lo,hi):Nat):Int),((Bw (lo,hi):Nat):Int)),0):=by
 obtain ⟨hk1,hk2,hk3⟩: -1000000000000000000≤lo∧lo≤hi∧hi≤1000000000000000000:=by simpa [jc] using h
 unfold nT;rw [if_pos h]
 have e1:((Ca (lo,hi):Nat):Int)=max (max lo (-hi)) 0:=by
  unfold Ca;simp only;omega
 have e2:((Bw (lo,hi):Nat):Int)=max (-lo) hi:=by
  unfold Bw;simp only;omega
 rw [e1,e2];unfold iH;rw [if_pos];unfold jc;simp only [aF,decide_eq_true_eq];omega
theorem Gz {b:Int × Int} (h:jc b.1 b.2=true):Ca b≤Bw b∧Bw b≤10^18:=by
 obtain ⟨hk1,hk2,hk3⟩: -1000000000000000000≤b.1∧b.1≤b.2∧b.2≤1000000000000000000:=by simpa [jc] using h
 have h18:(10:Nat)^18=1000000000000000000:=by decide
 rw [h18];unfold Ca Bw;omega
theorem below_grown {W W':World} (h:Below W.heap.size W W'):W.grownBy W' none:=⟨h.os,h.tape,h.output,h.size,fun i hi _=>h.block i hi⟩
def QE (bs:List (Int × Int)) (k:Fin bs.length):Array Value:=#[au #[Z I ((Ca bs[k.1]:Nat):Int),Z I ((Bw bs[k.1]:Nat):Int)]]
def upto {n:Nat} (k:Nat) (h:k≤n):List (Fin n):=List.ofFn (n:=k) fun i=>⟨i.1,aL i.2 h⟩
theorem Jm {n k:Nat} (h:k+1≤n):upto (k+1) h=upto k zo++[⟨k,h⟩]:=by
 unfold upto;rw [List.ofFn_succ_last];rfl
theorem qb {n k:Nat} (h:k≤n):(upto k h).length=k:=by simp [upto]
theorem z8 (n:Nat) (hn:1≤n) (l Bs n₀:Nat) (bs:List (Int × Int)) (hok:okB bs=true) (a:Option Addr) (cap:Nat) (J Jx:List (Fin bs.length)→World→Prop) (B₀:Nat) (hJ0:AbidesFrom B₀ J)
  (hY:∀ pre x W,J pre W→pre.length<bs.length→YieldAt Fence.wide (n - 1) Tryz.prog l (QE bs x) W fun en W' =>
   (en= ah (ay true)∧J (pre++[x]) W'∧Below n₀ W W')∨(en= ah (ay false)∧Jx (pre++[x]) W'))
  (W:World) (hn₀:n₀≤W.heap.size) (hBs:W.cell? ⟨Bs,0,none⟩=some (.slice a bs.length cap)) (hlen:bs.length≤9223372036854775807)
  (hread:∀ k (_:k<bs.length),∃ b off,a=some ⟨b,off,none⟩∧b<n₀∧W.cell? ⟨b,off+k*2,none⟩=some (.int .i64 bs[k].1)∧W.cell? ⟨b,off+k*2+1,none⟩=some (.int .i64 bs[k].2)) (h0:J [] W) :
  CallsIn Fence.wide n Tryz.prog 149 #[.func (.yield l) #[] #[],aA (some ⟨Bs,0,none⟩)] W fun en W'=>(∃ v,en= ah v) ∧
   ((∃ ys,ys=upto bs.length (aI _)∧J ys W')∨(∃ pre,True∧Jx pre W')):=by
 have HR:=zh hread;have HY:=zh hY;have HJ:=zh hJ0;clear hread hY hJ0;refine callsIn_of_wp Tryz.func149 rfl trivial ?_ rfl;simp only [Tryz.ntmps149,List.size_toArray,aZ,List.length_nil,Nat.reduceAdd,Nat.reduceSub,Array.replicate_succ,Array.replicate_zero,List.push_toArray,List.append_toArray,List.nil_append,cZ]
 gi_wp2
 gi_loopw [9] (fun i wr=>∃ (k:Nat) (hk:k≤bs.length),i= Z I k∧J (upto k hk) wr∧Below n₀ W wr)
  (fun i _=>bs.length - (intOf i).toNat)
 case atStart=>exact ⟨0,Nat.zero_le _,rfl,h0,Below.refl _ _⟩
 case round =>
  obtain ⟨k,hk,rfl,hJs,hnx⟩:=hrel
  by_cases hlt:k<bs.length
  ·obtain ⟨b,off,rfl,hbl,hx1,hx2⟩:=HR.out k hlt;have hc1:=(hnx.cell (p:=⟨b,off+k*2,none⟩) hbl).trans hx1;have hc2:=(hnx.cell (p:=⟨b,off+k*2+1,none⟩) hbl).trans hx2;clear hx1 hx2
   have hv:jc bs[k].1 bs[k].2=true:=by
    unfold okB at hok;exact List.all_eq_true.1 hok _ (eX hlt)
   have HA:=zh (fun W=>G9 bs[k].1 bs[k].2 W);rw [Rc hv] at HA;have HYK:=zh (fun W1 hJ1=>HY.out (upto k hk) ⟨k,hlt⟩ W1 hJ1 (by rw [qb];exact hlt));unfold QE at HYK;unfold dH at HA;simp only at HA HYK;have e0:bs[k]=(bs[k].1,bs[k].2):=rfl;rw [← e0] at HA;have HB:=zh hbl;clear hv e0 hbl;generalize bs[k].1=y1 at *;generalize bs[k].2=y2 at *;generalize ((Ca bs[k]:Nat):Int)=z1 at *;generalize ((Bw bs[k]:Nat):Int)=z2 at *
   gi_wp2_with (refine ⟨trivial,?_⟩;gi_at_call 150;refine (callsIn_wide.2 (HA.out _)).mono ?_;rintro e w1 ⟨rfl,hc3⟩;have hJ1:J (upto k hk) (w1.alloc (.cells #[Z I z1,Z I z2] 35)):=HJ.out _ _ _ none (HJ.out _ _ _ none (HJ.out _ _ _ none hJs (World.grownBy_alloc _ _ none) (fun r e=>by cases e)) (below_grown hc3) (fun r e=>by cases e)) (World.grownBy_alloc _ _ none) (fun r e=>by cases e);have hB1:Below n₀ W (w1.alloc (.cells #[Z I z1,Z I z2] 35)):=((hnx.alloc (aB hn₀ hnx.size) _).trans (hc3.mono (aB hn₀ (aB hnx.size zi)))).alloc (aB hn₀ (aB hnx.size (aB zi hc3.size))) _;obtain ⟨fn,tmps,assign,body,hy,hR⟩:=HYK.out _ hJ1;have hy2:(Instr.yield l #[Value.agg #[Value.int I z1,Value.int I z2]]).run Tryz.prog (w1.alloc (.cells #[Z I z1,Z I z2] 35))=_:=hy;clear hy)
   refine hR.mono ?_;rintro e W3 (⟨rfl,hJ3,hk3⟩|⟨rfl,hJx3⟩)
   ·gi_wp2
    go_roundw
    case rel=>exact ⟨k+1,hlt,by simp,by rw [Jm];exact hJ3,hB1.trans hk3⟩
    case measure=>exact zM
   ·gi_wp2
    refine bodyPost_ret (results_none rfl _ _ _) rfl ?_;exact ⟨⟨_,rfl⟩,.inr ⟨_,trivial,hJx3⟩⟩
  ·obtain rfl:k=bs.length:=by omega
   have hge:¬ bs.length<bs.length:=by omega
   have ad7:decide ((bs.length:Int)<(bs.length:Int))=false:=by simp
   gi_wp2
   go_end0
   exact ⟨⟨_,rfl⟩,.inl ⟨_,rfl,hJs⟩⟩
theorem BF (n:Nat) (a:Option Addr) (len cap:Nat) (w:World) :
  CallsIn Fence.wide n Tryz.prog 105 #[aj a len cap] w fun e w'=>e= ah (.func (.func 149) #[] #[aA (some ⟨w.heap.size,0,none⟩)])∧w'=w.alloc (.cells #[aj a len cap] 110):=by
 refine callsIn_of_wp Tryz.func105 rfl trivial ?_ rfl;simp only [Tryz.ntmps105,List.size_toArray,aZ,List.length_nil,Nat.reduceAdd,Nat.reduceSub,Array.replicate_succ,Array.replicate_zero,List.push_toArray,List.append_toArray,List.nil_append,cZ]
 gi_wp2
 go_ret
 exact ⟨rfl,rfl⟩
theorem wm (n:Nat) (hn:1≤n) (Bs n₀:Nat) (sv:Value) (T:TypeId) (bs:List (Int × Int)) (hok:okB bs=true) (w0 w:World) (hBs:Bs<w.heap.size) (hn₀:n₀≤w.heap.size)
  (hc:w.cell? ⟨Bs,0,none⟩=some sv) (hR:qX w0 T sv bs) (h0:w0.heap.size≤n₀) (hb:Below w0.heap.size w0 w) :
  SeqStopsK Fence.wide n Tryz.prog 149 #[aA (some ⟨Bs,0,none⟩)] (QE bs) (Below n₀) (fun ys=>ys=upto bs.length (aI _)) (fun _=>True) bs.length w:=fun l J Jx W hW hJ _ hY hJ0=>by
 obtain ⟨a,cap,rfl,h1,h2,h3⟩:=hR.read;have hc':=(hW.cell (p:=⟨Bs,0,none⟩) hBs).trans hc;have hB:=hb.trans (hW.mono (aB h0 hn₀));refine z8 n hn l Bs n₀ bs hok a cap J Jx _ hJ hY W (aB hn₀ hW.size) hc' zo (fun k hk=>?_) hJ0;obtain ⟨b,off,h4,h5,h6,h7⟩:=h3 k hk;exact ⟨b,off,h4,aL h5 h0,(hB.cell (p:=⟨b,_,none⟩) h5).trans h6,(hB.cell (p:=⟨b,_,none⟩) h5).trans h7⟩
end Go.Proofs.power
