/- Lemmas for the proof. No condition. -/
import Derived.Test.YtlpjmogillpnbaaGreatDoorTB13
import Derived.Test.YtlpjmogillpnbaaGreatDoorTB25
set_option linter.unusedVariables false
set_option linter.unusedSimpArgs false
set_option maxRecDepth 100000
set_option maxHeartbeats 16000000
open Go.Ending renaming returned → ah
open Go.IntKind renaming i64 → I
open Go.Value renaming agg → au, bool → ay, int → Z, pointer → aA, slice → aj, string → O, tuple → aD
open Nat renaming le_refl → aI, lt_of_le_of_lt → gB
namespace Go.Proofs.aQ
open Go Go.RowKit Go.SW Go.Num Go.Mem Go.Proofs Go.Dec Go.gW
def Us (a b:Int × Int):(Int × Int) × Int:=if b.1≤0∧0≤b.2 then ((0,0),7) else uM (fun x y up=>kP x 1000000000000 y up) a b
def vg (a b:Int × Int):(Int × Int) × Int:=if okB [a,b] then Us a b else ((0,0),30)
def Tm (b:Int × Int) (n d:Int):(Int × Int) × Int:=if n< -1000000000000∨1000000000000<n∨d<1∨1000000000000<d then ((0,0),2) else uM (fun x y up=>kP x y d up) b (n,n)
def xH (b:Int × Int) (n d:Int):(Int × Int) × Int:=if okB [b] then Tm b n d else ((0,0),30)
def Uy (b:Int × Int) (lo hi:Int):(Int × Int) × Int:=if jc lo hi then iH (min (max b.1 lo) hi) (min (max b.2 lo) hi) else ((0,0),2)
def zO (b:Int × Int) (lo hi:Int):(Int × Int) × Int:=if okB [b] then Uy b lo hi else ((0,0),30)
def RU (n:Int):(Int × Int) × Int:=if jc n n then ((n,n),0) else ((0,0),30)
def Gb (b:Int × Int):Fr × Int:=if jc b.1 b.2 then tH b.1 1000000000000 else (Fr.no,30)
def yu (b:Int × Int):Fr × Int:=if jc b.1 b.2 then tH b.2 1000000000000 else (Fr.no,30)
theorem lK {lo hi:Int} (h:jc lo hi=true):lo.natAbs≤1000000000000000000∧hi.natAbs≤1000000000000000000∧lo≤hi:=by
 obtain ⟨h1,h2,h3⟩: -1000000000000000000≤lo∧lo≤hi∧hi≤1000000000000000000:=by simpa [jc] using h
 exact ⟨by omega,by omega,h2⟩
theorem Im {a:Int × Int} (h:jc a.1 a.2=true) (k:Nat):(JG a k).natAbs≤1000000000000000000:=by
 unfold JG;have:=lK h;split<;>omega
theorem PZ {a:Int × Int} (h:jc a.1 a.2=true) (k:Nat):(FQ a k).natAbs≤1000000000000000000:=by
 unfold FQ;have:=lK h;split<;>omega
theorem RJ (x y:Int) (up:Bool) (hx:x.natAbs≤1000000000000000000) (hy:y≠0) (hy2:y.natAbs≤1000000000000000000) (w:World) :
  Calls Tryz.prog 172 #[Z I x,Z I y,ay up] w (fun e w'=>e= ah (aD #[Z I (kP x 1000000000000 y up).1,ay (kP x 1000000000000 y up).2])∧Below w.heap.size w w'):=by
 have H:=zh (fun W=>ql x 1000000000000 y up hx zo hy hy2 W);generalize kP x 1000000000000 y up=z at *;obtain ⟨z1,z2⟩:=z;simp only at *;clear hx hy hy2;go_enter Tryz.func172,Tryz.ntmps172
 go_wp2_with fail
 refine (H.out _).mono ?_;rintro e w1 ⟨rfl,hb⟩;go_wp2_with fail
 go_ret2
 exact ⟨rfl,hb⟩
theorem RL (x y z t:Int) (h0:okB [(x,y),(z,t)]=true) (b c:Nat) (w:World) (h:aC w b #[Z I x,Z I y] 35) (k:aC w c #[Z I z,Z I t] 35) :
  Calls Tryz.prog 170 #[aA (some ⟨c,0,none⟩),aA (some ⟨b,0,none⟩)] w (fun e w'=>e= ah (dH (Us (x,y) (z,t)))∧Below w.heap.size w w'):=by
 have h0':jc x y=true∧jc z t=true:=by simpa [okB] using h0
 have ha:=Im (a:=(x,y)) h0'.1;have hc:=PZ (a:=(z,t)) h0'.2;obtain ⟨z1,z2,z3⟩:=lK h0'.2
 have H:Hid (¬ (z≤0∧0≤t)→∀ W,Calls Tryz.prog 171 #[au #[Z I x,Z I y],au #[Z I z,Z I t],.func (.func 172) #[] #[]] W (fun e w'=>e= ah (dH (uM (fun x y up=>kP x 1000000000000 y up) (x,y) (z,t)))∧Below W.heap.size W w')):=zh fun hn W =>
  rP (fun x y up=>kP x 1000000000000 y up) 172 #[] x y z t W (fun k up W' _=>RJ _ _ up (ha k) (by unfold FQ;split<;>simp only<;>omega) (hc k) W') (fun args W=>by rfl)
 have e:Us (x,y) (z,t)=if z≤0∧0≤t then ((0,0),7) else uM (fun x y up=>kP x 1000000000000 y up) (x,y) (z,t):=rfl
 rw [e];generalize uM (fun x y up=>kP x 1000000000000 y up) (x,y) (z,t)=m at *;clear h0 h0' ha hc z1 z2 z3 e;obtain ⟨⟨m1,m2⟩,m3⟩:=m;have HX:=zh h;have HY:=zh k;clear h k
 by_cases hn:z≤0∧0≤t
 ·rw [if_pos hn];obtain ⟨g1,g2⟩:=hn;unfold dH at *;simp only at *;clear H;obtain ⟨cx,lx,fx⟩:=HY.clf;go_enter Tryz.func170,Tryz.ntmps170
  go_wp2_with fail
  have hx:=aC.new w #[Z I 0,Z I 0] 35;refine aY rfl rfl bf Tryz.underlying35 rfl zk ?_;exact ⟨rfl,aN⟩
 ·rw [if_neg hn];replace H:=zh (H.out hn);unfold dH at *;simp only at *
  have g:decide (z≤0)=false∨(decide (z≤0)=true∧decide (0≤t)=false):=by
   by_cases g1:z≤0
   ·exact .inr ⟨decide_eq_true g1,decide_eq_false (fun g2=>hn ⟨g1,g2⟩)⟩
   ·exact .inl (decide_eq_false g1)
  clear hn;obtain ⟨cx,lx,fx⟩:=HX.clf;obtain ⟨cy,ly,fy⟩:=HY.clf
  rcases g with g1|⟨g1,g2⟩
  all_goals
   simp only [decide_eq_false_iff_not,decide_eq_true_eq] at *;go_enter Tryz.func170,Tryz.ntmps170
   go_wp2_with fail
   refine (H.out _).mono ?_;rintro e w1 ⟨rfl,hb1⟩;have hx:=aC.later (aC.new w #[Z I 0,Z I 0] 35) hb1;have cr:=hx.cell;have fr:=hx.free;have lr:=hx.lt;have hw:=Bt (show Below w.heap.size w (w.alloc (.cells #[Z I 0,Z I 0] 35)) from aN) hb1;go_wp2_with fail
   refine aY rfl rfl bf Tryz.underlying35 rfl zk ?_;exact ⟨rfl,aN⟩
theorem yY (x y z t:Int) (w:World):Calls Tryz.prog 124 #[au #[Z I x,Z I y],au #[Z I z,Z I t]] w (fun e w'=>e= ah (dH (vg (x,y) (z,t)))∧Below w.heap.size w w'):=by
 have H:Hid (∀ W b c d,aC W b #[Z I x,Z I y] 35→aC W c #[Z I z,Z I t] 35→aC W d #[Z I x,Z I y,Z I z,Z I t] 35→Calls Tryz.prog 163 #[.func (.func 170) #[] #[aA (some ⟨c,0,none⟩),aA (some ⟨b,0,none⟩)],aj (some ⟨d,0,none⟩) 2 2] W (fun e w'=>e= ah (dH (vg (x,y) (z,t)))∧Below W.heap.size W w')):=zh fun W b c d h1 h2 h3 =>
  jk 170 #[aA (some ⟨c,0,none⟩),aA (some ⟨b,0,none⟩)] _ _ _ _ W (qX.two h3) (fun h W' hW'=>RL x y z t h b c W' (h1.later hW') (h2.later hW')) (fun args W=>by rfl)
 generalize vg (x,y) (z,t)=m at *;obtain ⟨⟨m1,m2⟩,m3⟩:=m;unfold dH at *;simp only at *;go_enter Tryz.func124,Tryz.ntmps124
 go_wp2_with fail
 obtain ⟨wx,EW,hz,X,Y,R,bZ⟩:=YQ w #[Z I x,Z I y] 35 #[Z I z,Z I t] 35 #[Z I 0,Z I 0] 35 #[Z I x,Z I y,Z I z,Z I t] 35;rw [EW];clear EW;have HB:=zh hz;clear hz;refine (H.out _ _ _ _ X.out Y.out bZ.out).mono ?_;rintro e w1 ⟨rfl,hb1⟩;replace R:=R.bl hb1;replace HB:=zh (Bt HB.out hb1);clear hb1 H;have hx:=R.out;have cx:=hx.cell;have fx:=hx.free;have lx:=hx.lt;have hw:=HB.out;go_wp2_with fail
 refine aY rfl rfl bf Tryz.underlying35 rfl zk ?_;exact ⟨rfl,aN⟩
theorem Kv (x y d:Int) (up:Bool) (hx:x.natAbs≤1000000000000000000) (hy:y.natAbs≤1000000000000000000) (hd:d≠0) (hd2:d.natAbs≤1000000000000000000) (c:Nat) (w:World) (h:aC w c #[Z I d] 3) :
  Calls Tryz.prog 210 #[Z I x,Z I y,ay up,aA (some ⟨c,0,none⟩)] w (fun e w'=>e= ah (aD #[Z I (kP x y d up).1,ay (kP x y d up).2])∧Below w.heap.size w w'):=by
 have H:=zh (fun W=>ql x y d up hx hy hd hd2 W);generalize kP x y d up=z at *;obtain ⟨z1,z2⟩:=z;have cc:=h.cell;have lc:=h.lt;simp only at *;clear hx hy hd hd2 h;go_enter Tryz.func210,Tryz.ntmps210
 go_wp2_with fail
 refine (H.out _).mono ?_;rintro e w1 ⟨rfl,hb⟩;go_wp2_with fail
 go_ret2
 exact ⟨rfl,hb⟩
theorem Kw (x y n d:Int) (h0:okB [(x,y)]=true) (bn bd b:Nat) (w:World) (hn:aC w bn #[Z I n] 3) (hd:aC w bd #[Z I d] 3) (h:aC w b #[Z I x,Z I y] 35) :
  Calls Tryz.prog 209 #[aA (some ⟨bn,0,none⟩),aA (some ⟨bd,0,none⟩),aA (some ⟨b,0,none⟩)] w (fun e w'=>e= ah (dH (Tm (x,y) n d))∧Below w.heap.size w w'):=by
 have h0':jc x y=true:=by simpa [okB] using h0
 have ha:=Im (a:=(x,y)) h0'
 have H:Hid (¬ (n< -1000000000000∨1000000000000<n∨d<1∨1000000000000<d)→∀ W,Below w.heap.size w W→Calls Tryz.prog 171 #[au #[Z I x,Z I y],au #[Z I n,Z I n],.func (.func 210) #[] #[aA (some ⟨bd,0,none⟩)]] W (fun e w'=>e= ah (dH (uM (fun x y up=>kP x y d up) (x,y) (n,n)))∧Below W.heap.size W w')):=zh fun hg W hW =>
  rP (fun x y up=>kP x y d up) 210 #[aA (some ⟨bd,0,none⟩)] x y n n W (fun k up W' hW'=>Kv _ _ d up (ha k) (by unfold FQ;split<;>simp only<;>omega) zo zo bd W' ((hd.later hW).later hW')) (fun args W=>by rfl)
 have e:Tm (x,y) n d=if n< -1000000000000∨1000000000000<n∨d<1∨1000000000000<d then ((0,0),2) else uM (fun x y up=>kP x y d up) (x,y) (n,n):=rfl
 rw [e];generalize uM (fun x y up=>kP x y d up) (x,y) (n,n)=m at *;obtain ⟨⟨m1,m2⟩,m3⟩:=m;have HX:=zh h;have HN:=zh hn;have HD:=zh hd;clear h0 h0' ha e h hn hd;obtain ⟨cn,ln,fn⟩:=HN.clf;obtain ⟨cd,ld,fd⟩:=HD.clf
 by_cases hg:n< -1000000000000∨1000000000000<n∨d<1∨1000000000000<d
 ·rw [if_pos hg];clear H;have g:n< -1000000000000∨(¬ n< -1000000000000∧1000000000000<n)∨(¬ n< -1000000000000∧¬ 1000000000000<n∧d<1)∨(¬ n< -1000000000000∧¬ 1000000000000<n∧¬ d<1∧1000000000000<d):=by omega
  clear hg;unfold dH;simp only
  rcases g with g1|⟨g1,g2⟩|⟨g1,g2,g3⟩|⟨g1,g2,g3,g4⟩
  all_goals
   go_enter Tryz.func209,Tryz.ntmps209
   go_wp2_with fail
   have hx:=aC.new w #[Z I 0,Z I 0] 35;refine aY rfl rfl bf Tryz.underlying35 rfl zk ?_;exact ⟨rfl,aN⟩
 ·rw [if_neg hg];replace H:=zh (H.out hg);have g1:¬ n< -1000000000000:=by omega
  have g2:¬ 1000000000000<n:=by omega
  have g3:¬ d<1:=by omega
  have g4:¬ 1000000000000<d:=by omega
  clear hg;unfold dH at *;simp only at *;obtain ⟨cx,lx,fx⟩:=HX.clf;go_enter Tryz.func209,Tryz.ntmps209
  go_wp2_with fail
  refine (H.out _ aN).mono ?_;rintro e w1 ⟨rfl,hb1⟩;have hx:=aC.later (aC.new w #[Z I 0,Z I 0] 35) hb1;have cr:=hx.cell;have fr:=hx.free;have lr:=hx.lt;have hw:=Bt (show Below w.heap.size w (w.alloc (.cells #[Z I 0,Z I 0] 35)) from aN) hb1;go_wp2_with fail
  refine aY rfl rfl bf Tryz.underlying35 rfl zk ?_;exact ⟨rfl,aN⟩
theorem KW (x y lo hi:Int) (h0:okB [(x,y)]=true) (bn bd b:Nat) (w:World) (hn:aC w bn #[Z I lo] 3) (hd:aC w bd #[Z I hi] 3) (h:aC w b #[Z I x,Z I y] 35) :
  Calls Tryz.prog 211 #[aA (some ⟨bn,0,none⟩),aA (some ⟨bd,0,none⟩),aA (some ⟨b,0,none⟩)] w (fun e w'=>e= ah (dH (Uy (x,y) lo hi))∧Below w.heap.size w w'):=by
 have HV:=zh (fun W=>ku lo hi W);have HM:=zh (fun W=>kK (min (max x lo) hi) (min (max y lo) hi) W);have e:Uy (x,y) lo hi=if jc lo hi then iH (min (max x lo) hi) (min (max y lo) hi) else ((0,0),2):=rfl
 rw [e];generalize iH (min (max x lo) hi) (min (max y lo) hi)=m at *;generalize jc lo hi=v at *;obtain ⟨⟨m1,m2⟩,m3⟩:=m;have HX:=zh h;have HN:=zh hn;have HD:=zh hd;clear h0 e h hn hd;unfold dH at *;simp only at *;cases v
 ·obtain ⟨cn,ln,fn⟩:=HN.clf;obtain ⟨cd,ld,fd⟩:=HD.clf;go_enter Tryz.func211,Tryz.ntmps211
  go_wp2_with fail
  refine (HV.out _).mono ?_;rintro e w1 ⟨rfl,hb1⟩;have hx:=aC.later (aC.new w #[Z I 0,Z I 0] 35) hb1;have cr:=hx.cell;have fr:=hx.free;have lr:=hx.lt;have hw:=Bt (show Below w.heap.size w (w.alloc (.cells #[Z I 0,Z I 0] 35)) from aN) hb1;go_wp2_with fail
  refine aY rfl rfl bf Tryz.underlying35 rfl zk ?_;exact ⟨rfl,aN⟩
 ·obtain ⟨cn,ln,fn⟩:=HN.clf;obtain ⟨cd,ld,fd⟩:=HD.clf;go_enter Tryz.func211,Tryz.ntmps211
  go_wp2_with fail
  refine (HV.out _).mono ?_;rintro e w1 ⟨rfl,hb1⟩;have hw:=Bt (show Below w.heap.size w (w.alloc (.cells #[Z I 0,Z I 0] 35)) from aN) hb1;have hx:=aC.later (aC.new w #[Z I 0,Z I 0] 35) hb1;clear cn ln fn cd ld fd;obtain ⟨cn,ln,fn⟩:=(HN.bl hw).clf;obtain ⟨cd,ld,fd⟩:=(HD.bl hw).clf;obtain ⟨cx,lx,fx⟩:=(HX.bl hw).clf;go_wp2_with fail
  refine (HM.out _).mono ?_;rintro e w2 ⟨rfl,hb2⟩;replace hx:=hx.later hb2;replace hw:=Bt hw hb2;have cr:=hx.cell;have fr:=hx.free;have lr:=hx.lt;clear cn ln fn cd ld fd cx lx fx hb1 hb2;go_wp2_with fail
  refine aY rfl rfl bf Tryz.underlying35 rfl zk ?_;exact ⟨rfl,aN⟩
theorem OC (x y n d:Int) (w:World):Calls Tryz.prog 159 #[au #[Z I x,Z I y],Z I n,Z I d] w (fun e w'=>e= ah (dH (xH (x,y) n d))∧Below w.heap.size w w'):=by
 have H:Hid (∀ W bn bd b c,aC W bn #[Z I n] 3→aC W bd #[Z I d] 3→aC W b #[Z I x,Z I y] 35→aC W c #[Z I x,Z I y] 35→Calls Tryz.prog 163 #[.func (.func 209) #[] #[aA (some ⟨bn,0,none⟩),aA (some ⟨bd,0,none⟩),aA (some ⟨b,0,none⟩)],aj (some ⟨c,0,none⟩) 1 1] W (fun e w'=>e= ah (dH (xH (x,y) n d))∧Below W.heap.size W w')):=zh fun W bn bd b c h1 h2 h3 h4 =>
  jk 209 #[aA (some ⟨bn,0,none⟩),aA (some ⟨bd,0,none⟩),aA (some ⟨b,0,none⟩)] _ _ _ _ W (qX.one h4) (fun h W' hW'=>Kw x y n d h bn bd b W' (h1.later hW') (h2.later hW') (h3.later hW')) (fun args W=>by rfl)
 generalize xH (x,y) n d=z at *;obtain ⟨⟨z1,z2⟩,z3⟩:=z;unfold dH at *;simp only at *;go_enter Tryz.func159,Tryz.ntmps159
 go_wp2_with fail
 obtain ⟨wx,EW,hz,X,N,D,R,bZ⟩:=U1 w #[Z I x,Z I y] 35 #[Z I n] 3 #[Z I d] 3 #[Z I 0,Z I 0] 35 #[Z I x,Z I y] 35;rw [EW];clear EW;have HB:=zh hz;clear hz;refine (H.out _ _ _ _ _ N.out D.out X.out bZ.out).mono ?_;rintro e w1 ⟨rfl,hb1⟩;replace R:=R.bl hb1;replace HB:=zh (Bt HB.out hb1);clear hb1 H;have hx:=R.out;have cx:=hx.cell;have fx:=hx.free;have lx:=hx.lt;have hw:=HB.out;go_wp2_with fail
 refine aY rfl rfl bf Tryz.underlying35 rfl zk ?_;exact ⟨rfl,aN⟩
theorem O4 (x y n d:Int) (w:World):Calls Tryz.prog 160 #[au #[Z I x,Z I y],Z I n,Z I d] w (fun e w'=>e= ah (dH (zO (x,y) n d))∧Below w.heap.size w w'):=by
 have H:Hid (∀ W bn bd b c,aC W bn #[Z I n] 3→aC W bd #[Z I d] 3→aC W b #[Z I x,Z I y] 35→aC W c #[Z I x,Z I y] 35→Calls Tryz.prog 163 #[.func (.func 211) #[] #[aA (some ⟨bn,0,none⟩),aA (some ⟨bd,0,none⟩),aA (some ⟨b,0,none⟩)],aj (some ⟨c,0,none⟩) 1 1] W (fun e w'=>e= ah (dH (zO (x,y) n d))∧Below W.heap.size W w')):=zh fun W bn bd b c h1 h2 h3 h4 =>
  jk 211 #[aA (some ⟨bn,0,none⟩),aA (some ⟨bd,0,none⟩),aA (some ⟨b,0,none⟩)] _ _ _ _ W (qX.one h4) (fun h W' hW'=>KW x y n d h bn bd b W' (h1.later hW') (h2.later hW') (h3.later hW')) (fun args W=>by rfl)
 generalize zO (x,y) n d=z at *;obtain ⟨⟨z1,z2⟩,z3⟩:=z;unfold dH at *;simp only at *;go_enter Tryz.func160,Tryz.ntmps160
 go_wp2_with fail
 obtain ⟨wx,EW,hz,X,N,D,R,bZ⟩:=U1 w #[Z I x,Z I y] 35 #[Z I n] 3 #[Z I d] 3 #[Z I 0,Z I 0] 35 #[Z I x,Z I y] 35;rw [EW];clear EW;have HB:=zh hz;clear hz;refine (H.out _ _ _ _ _ N.out D.out X.out bZ.out).mono ?_;rintro e w1 ⟨rfl,hb1⟩;replace R:=R.bl hb1;replace HB:=zh (Bt HB.out hb1);clear hb1 H;have hx:=R.out;have cx:=hx.cell;have fx:=hx.free;have lx:=hx.lt;have hw:=HB.out;go_wp2_with fail
 refine aY rfl rfl bf Tryz.underlying35 rfl zk ?_;exact ⟨rfl,aN⟩
theorem OH (n:Int) (w:World):Calls Tryz.prog 266 #[Z I n] w (fun e w'=>e= ah (dH (RU n))∧Below w.heap.size w w'):=by
 have H:Hid (∀ W,Calls Tryz.prog 153 #[Z I n,Z I n] W (fun e w'=>e= ah (dH (RU n))∧Below W.heap.size W w')):=zh fun W=>by
  have h:=qI n n W;unfold RU dH
  revert h
  cases jc n n<;>exact fun h=>h
 generalize RU n=z at *;obtain ⟨⟨z1,z2⟩,z3⟩:=z;unfold dH at *;simp only at *;go_enter Tryz.func266,Tryz.ntmps266
 go_wp2_with fail
 obtain ⟨wx,EW,hz,R⟩:=EP w #[Z I 0,Z I 0] 35;rw [EW];clear EW;have HB:=zh hz;clear hz;refine (H.out _).mono ?_;rintro e w1 ⟨rfl,hb1⟩;replace R:=R.bl hb1;replace HB:=zh (Bt HB.out hb1);clear hb1 H;have hx:=R.out;have cx:=hx.cell;have fx:=hx.free;have lx:=hx.lt;have hw:=HB.out;go_wp2_with fail
 refine aY rfl rfl bf Tryz.underlying35 rfl zk ?_;exact ⟨rfl,aN⟩
theorem OO (lo hi:Int) (s t:ByteArray) (b:Nat) (w:World) (h:aC w b #[Z I lo,Z I hi] 35) (HE:∀ W,Below w.heap.size w W→Calls Tryz.prog 44 #[Z I hi] W (fun e w'=>e= ah (aD #[au #[O s,O t],Z I 0])∧Below W.heap.size W w')) :
  Calls Tryz.prog 45 #[aA (some ⟨b,0,none⟩)] w (fun e w'=>e= ah (aD #[au #[O s,O t],Z I 0])∧Below w.heap.size w w'):=by
 have H:=zh HE;clear HE;go_enter Tryz.func45,Tryz.ntmps45
 have hb:=h.alloc (.cells #[O ⟨#[]⟩,O ⟨#[]⟩] 29);have cb:=hb.cell;have lb:=hb.lt;go_wp2_with fail
 clear cb lb hb;obtain ⟨wx,EW,hz,HR⟩:=EP w #[O ⟨#[]⟩,O ⟨#[]⟩] 29;rw [EW];clear EW;refine (H.out _ hz).mono ?_;rintro e w1 ⟨rfl,hb1⟩;have hr:=HR.out.later hb1;have cr:=hr.cell;have fr:=hr.free;have hw:=Bt hz hb1;go_wp2_with fail
 refine aY rfl rfl ((hr.set 0 _).set 1 _) Tryz.underlying29 rfl zk ?_;exact ⟨rfl,(hw.setCell (p:=⟨w.heap.size,0,none⟩) (aI _) _).setCell (p:=⟨w.heap.size,1,none⟩) (aI _) _⟩
theorem Rt (lo hi:Int) (s t:ByteArray) (w:World) (hv:jc lo hi=true) (HE:∀ W,Below w.heap.size w W→Calls Tryz.prog 44 #[Z I hi] W (fun e w'=>e= ah (aD #[au #[O s,O t],Z I 0])∧Below W.heap.size W w')) :
  Calls Tryz.prog 16 #[au #[Z I lo,Z I hi]] w (fun e w'=>e= ah (aD #[au #[O s,O t],Z I 0])∧Below w.heap.size w w'):=by
 have H:Hid (∀ W b q,Below w.heap.size w W→aC W b #[Z I lo,Z I hi] 35→aC W q #[Z I lo,Z I hi] 35→Calls Tryz.prog 42 #[.func (.func 45) #[] #[aA (some ⟨b,0,none⟩)],aj (some ⟨q,0,none⟩) 1 1] W (fun e w'=>e= ah (aD #[au #[O s,O t],Z I 0])∧Below W.heap.size W w')):=zh fun W b q hW h1 h2 =>
  DY 45 #[aA (some ⟨b,0,none⟩)] lo hi s t q W hv h2 (fun W' hW'=>OO lo hi s t b W' (h1.later hW') (fun W2 h3=>HE W2 (Bt hW (Bt hW' h3)))) (fun args W=>by rfl)
 clear HE hv;go_enter Tryz.func16,Tryz.ntmps16
 go_wp2_with fail
 obtain ⟨wx,EW,hz,X,R,bZ⟩:=Pf w #[Z I lo,Z I hi] 35 #[O ⟨#[]⟩,O ⟨#[]⟩] 29 #[Z I lo,Z I hi] 35;rw [EW];clear EW;refine (H.out _ _ _ hz X.out bZ.out).mono ?_;rintro e w1 ⟨rfl,hb1⟩;have hr:=R.out.later hb1;have cr:=hr.cell;have fr:=hr.free;have hw:=Bt hz hb1;clear H;go_wp2_with fail
 refine aY rfl rfl ((hr.set 0 _).set 1 _) Tryz.underlying29 rfl zk ?_;exact ⟨rfl,(hw.setCell (p:=⟨w.heap.size+1,0,none⟩) (by show w.heap.size≤w.heap.size+1;omega) _).setCell (p:=⟨w.heap.size+1,1,none⟩) (by show w.heap.size≤w.heap.size+1;omega) _⟩
end Go.Proofs.aQ
namespace Go.Proofs.dD
open Go Go.RowKit Go.SW Go.Num Go.Mem Go.Proofs Go.Dec Go.gW
end Go.Proofs.dD
namespace Go.Proofs.power
open Go Go.RowKit Go.SW Go.Num Go.Mem Go.Proofs Go.Dec Go.gW Go.Proofs.whole Go.Proofs.aQ
theorem Da (lo hi:ByteArray) (f:Value) (F:FuncId) (caps free:Array Value) (a b:Int × Int) (w:World) (hf:f= .func (.func F) caps free)
  (h1:∀ W,Below w.heap.size w W→Calls Tryz.prog F (caps++#[O lo,ay false]) W (fun e w'=>e= ah (aD #[Z I a.1,Z I a.2])∧Below W.heap.size W w'))
  (h2:∀ W,Below w.heap.size w W→Calls Tryz.prog F (caps++#[O hi,ay true]) W (fun e w'=>e= ah (aD #[Z I b.1,Z I b.2])∧Below W.heap.size W w')) (hfr:free=#[])
  (hen:∀ args W,(callFunc F args).run Tryz.prog W= .ok (.enter F args) W) :
  Calls Tryz.prog 107 #[O lo,O hi,f] w (fun e w'=>e= ah (JN a b)∧Below w.heap.size w w'):=by
 subst hf hfr;obtain ⟨a1,a2⟩:=a;obtain ⟨b1,b2⟩:=b;have H1:=zh h1;have H2:=zh h2;have HO:=zh (fun W=>qI a1 b1 W);unfold JN;simp only;clear h1 h2;go_enter Tryz.func107,Tryz.ntmps107
 go_wp2_with fail
 refine (H1.out _ aN).mono ?_;rintro e w1 ⟨rfl,hb1⟩;have hx:=aC.later (aC.new w #[Z I 0,Z I 0] 35) hb1;have HX:=zh hx;have HB1:=zh (Bt (show Below w.heap.size w (w.alloc (.cells #[Z I 0,Z I 0] 35)) from aN) hb1);clear hx hb1
 by_cases ha:a2=0
 ·subst ha;go_wp2_with fail
  refine (H2.out _ HB1.out).mono ?_;rintro e w2 ⟨rfl,hb2⟩;replace HX:=zh (HX.out.later hb2);have HB2:=zh (Bt HB1.out hb2);clear hb2 HB1
  by_cases hb:b2=0
  ·subst hb;go_wp2_with fail
   refine (HO.out _).mono ?_;rintro e w3 ⟨rfl,hb3⟩;replace HX:=zh (HX.out.later hb3);have HB3:=zh (Bt HB2.out hb3);clear hb3 HB2;have hx:=HX.out;have cx:=hx.cell;have fx:=hx.free;have lx:=hx.lt;have hw:=HB3.out;cases hk:jc a1 b1
   all_goals
    go_wp2_with fail
    refine aY rfl rfl bf Tryz.underlying35 rfl zk ?_;exact ⟨by first|rfl|(rw [if_neg (fun h=>h rfl),if_neg (fun h=>h rfl),hk];rfl),aN⟩
  ·have g:(b2 == 0)=false:=beq_eq_false_iff_ne.2 hb;have hx:=HX.out;have cx:=hx.cell;have fx:=hx.free;have lx:=hx.lt;have hw:=HB2.out;go_wp2_with fail
   refine aY rfl rfl bf Tryz.underlying35 rfl zk ?_;exact ⟨by first|rfl|(rw [if_neg (fun h=>h rfl),if_pos hb];rfl),aN⟩
 ·have g:(a2 == 0)=false:=beq_eq_false_iff_ne.2 ha;have hx:=HX.out;have cx:=hx.cell;have fx:=hx.free;have lx:=hx.lt;have hw:=HB1.out;go_wp2_with fail
  refine aY rfl rfl bf Tryz.underlying35 rfl zk ?_;exact ⟨by first|rfl|(rw [if_pos ha];rfl),aN⟩
theorem uE (s n:Nat) (hs:kg s=true) (hn:n≤10^18) (hk:kg (s+n^2)=true) (w:World) (ht:gJ.Pow w) :
  Calls Tryz.prog 106 #[dA (s:Int),Z I (n:Int)] w (fun e w'=>e= ah (aD #[dA ((s+n^2:Nat):Int),Z I 0])∧Below w.heap.size w w'):=by
 have hn0:kg n=true:=tF.2 (gB hn (by decide+kernel));have hn2:kg (n^2)=true:=nQ hk zo
 have h63:(n:Int)≤9223372036854775807:=by
  have:(10:Nat)^18=1000000000000000000:=by decide
  omega
 have HO:=zh (fun W h=>IC (n:Int) zo h63 W h);have GU:=zh (fun W h=>GL n 2 hn0 zo W h);have HA:=zh (fun W h=>zl s (n^2) hs hn2 W h);rw [pX hn2] at GU;rw [pX hk] at HA;have HP:=zh ht;clear ht h63 hn2 hn0 hs hn hk;generalize s+n^2=u at *;generalize n^2=n2 at *;unfold dA at *;generalize (⟨(Lib.itoa (n:Int)).toArray⟩:ByteArray)=tn at *;generalize (⟨(Lib.itoa (n2:Int)).toArray⟩:ByteArray)=tn2 at *;generalize (⟨(Lib.itoa (s:Int)).toArray⟩:ByteArray)=ts at *;generalize (⟨(Lib.itoa (u:Int)).toArray⟩:ByteArray)=tu at *;go_enter Tryz.func106,Tryz.ntmps106
 go_wp2_with fail
 refine (HO.out _ HP.out).mono ?_;rintro e w1 ⟨rfl,hb1⟩;go_wp2_with fail
 refine (GU.out _ (HP.out.later hb1)).mono ?_;rintro e w2 ⟨rfl,hb2⟩;go_wp2_with fail
 refine (HA.out _ (HP.out.later (Bt hb1 hb2))).mono ?_;rintro e w3 ⟨rfl,hb3⟩;go_wp2_with fail
 go_ret2
 exact ⟨rfl,Bt hb1 (Bt hb2 hb3)⟩
theorem E8 (s:Nat) (up:Bool) (hs:kg s=true) (w:World) (ht:gJ.Pow w) (he:Er w) :
  Calls Tryz.prog 108 #[dA (s:Int),ay up] w (fun e w'=>e= ah (aD #[Z I (uW (eH 2 s) (up&& !(decide (eH 2 s^2=s)))).1,Z I (uW (eH 2 s) (up&& !(decide (eH 2 s^2=s)))).2])∧Below w.heap.size w w'):=by
 have HR:=zh (fun W h=>sQ s 2 hs zo zo W h);have HI:=zh (fun W h=>rY (eH 2 s) (up&& !(decide (eH 2 s^2=s))) (nQ hs (mX zo)) W h);have HP:=zh ht;have HE:=zh he;clear ht he hs;generalize decide (eH 2 s^2=s)=ex at *;obtain ⟨v,Ev⟩:∃ v,uW (eH 2 s) (up&& !ex)=v:=⟨_,rfl⟩;rw [Ev] at HI ⊢;clear Ev;obtain ⟨v1,v2⟩:=v;simp only at HI ⊢;generalize eH 2 s=r at *;unfold dA at *;generalize (⟨(Lib.itoa (s:Int)).toArray⟩:ByteArray)=ts at *;generalize (⟨(Lib.itoa (r:Int)).toArray⟩:ByteArray)=tr at *;go_enter Tryz.func108,Tryz.ntmps108
 go_wp2_with fail
 refine (HR.out _ HP.out).mono ?_;rintro e w1 ⟨rfl,hb1⟩;cases up<;>cases ex
 all_goals
  go_wp2_with fail
  refine (HI.out _ (HE.out.later hb1)).mono ?_;rintro e w2 ⟨rfl,hb2⟩;go_wp2_with fail
  go_ret2
  exact ⟨rfl,Bt hb1 hb2⟩
theorem JY {l:List Nat} {up:Bool}:uW (eH 2 (oN l)) (up&& !(decide (eH 2 (oN l)^2=oN l)))=rX l up:=by
 show uW (nlo l) (up&& !(decide (nlo l^2=oN l)))=rX l up
 by_cases h:nlo l≤10^18
 ·rw [Qj h];unfold uW;rw [if_pos h]
 ·unfold rX uW;rw [if_neg h,if_neg h]
end Go.Proofs.power
