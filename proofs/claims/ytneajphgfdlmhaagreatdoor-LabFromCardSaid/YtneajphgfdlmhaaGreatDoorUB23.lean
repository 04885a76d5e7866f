/- Lemmas for the proof. No condition. -/
import Derived.Test.YtneajphgfdlmhaaGreatDoorUB14
import Derived.Test.YtneajphgfdlmhaaGreatDoorUB22
set_option linter.unusedVariables false
set_option linter.unusedSimpArgs false
set_option maxRecDepth 100000
set_option maxHeartbeats 16000000
open Go.Ending renaming returned → ah
open Go.IntKind renaming i64 → I
open Go.Value renaming agg → au, bool → ak, int → Z, pointer → aA, slice → aj, string → O, tuple → aD
open List renaming getElem_mem → fq, replicate → bW
open Nat renaming le_refl → aC, lt_or_ge → aR, mul_comm → aL, mul_le_mul → fA, pow_succ → cZ
namespace Go.Proofs.aW
open Go Go.RowKit Go.SW Go.Num Go.Mem Go.Proofs Go.Dec Go.gB
def am3 (a b:Int × Int):(Int × Int) × Int:=if b.1≤0∧0≤b.2 then ((0,0),7) else sU (fun x y up=>oJ x 1000000000000 y up) a b
def WV (a b:Int × Int):(Int × Int) × Int:=if okB [a,b] then am3 a b else ((0,0),30)
def Vb (b:Int × Int) (n d:Int):(Int × Int) × Int:=if n< -1000000000000∨1000000000000<n∨d<1∨1000000000000<d then ((0,0),2) else sU (fun x y up=>oJ x y d up) b (n,n)
def qw (b:Int × Int) (n d:Int):(Int × Int) × Int:=if okB [b] then Vb b n d else ((0,0),30)
def am6 (b:Int × Int) (lo hi:Int):(Int × Int) × Int:=if gM lo hi then gN (min (max b.1 lo) hi) (min (max b.2 lo) hi) else ((0,0),2)
def WY (b:Int × Int) (lo hi:Int):(Int × Int) × Int:=if okB [b] then am6 b lo hi else ((0,0),30)
def Ut (n:Int):(Int × Int) × Int:=if gM n n then ((n,n),0) else ((0,0),30)
def JY (b:Int × Int):Fr × Int:=if gM b.1 b.2 then nk b.1 1000000000000 else (Fr.no,30)
def AO (b:Int × Int):Fr × Int:=if gM b.1 b.2 then nk b.2 1000000000000 else (Fr.no,30)
theorem zY {lo hi:Int} (h:gM lo hi=true):lo.natAbs≤1000000000000000000∧hi.natAbs≤1000000000000000000∧lo≤hi:=by
 obtain ⟨h1,h2,h3⟩: -1000000000000000000≤lo∧lo≤hi∧hi≤1000000000000000000:=by simpa [gM] using h
 exact ⟨by omega,by omega,h2⟩
theorem O9 {a:Int × Int} (h:gM a.1 a.2=true) (k:Nat):(Pb a k).natAbs≤1000000000000000000:=by
 unfold Pb;have:=zY h;split<;>omega
theorem Yy {a:Int × Int} (h:gM a.1 a.2=true) (k:Nat):(LB a k).natAbs≤1000000000000000000:=by
 unfold LB;have:=zY h;split<;>omega
theorem aa9 (x y:Int) (up:Bool) (hx:x.natAbs≤1000000000000000000) (hy:y≠0) (hy2:y.natAbs≤1000000000000000000) (w:World) :
  Calls Tryz.prog 161 #[Z I x,Z I y,ak up] w (fun e w'=>e= ah (aD #[Z I (oJ x 1000000000000 y up).1,ak (oJ x 1000000000000 y up).2])∧Below w.heap.size w w'):=by
 have H:=zh (fun W=>CF x 1000000000000 y up hx zo hy hy2 W);generalize oJ x 1000000000000 y up=z at *;obtain ⟨z1,z2⟩:=z;simp only at *;clear hx hy hy2;go_enter Tryz.func161,Tryz.ntmps161
 go_wp2_with fail
 refine (H.out _).mono ?_;rintro e w1 ⟨rfl,hb⟩;go_wp2_with fail
 go_ret2
 exact ⟨rfl,hb⟩
theorem ab0 (x y z t:Int) (h0:okB [(x,y),(z,t)]=true) (b c:Nat) (w:World) (h:aB w b #[Z I x,Z I y] 40) (k:aB w c #[Z I z,Z I t] 40) :
  Calls Tryz.prog 160 #[aA (some ⟨c,0,none⟩),aA (some ⟨b,0,none⟩)] w (fun e w'=>e= ah (dZ (am3 (x,y) (z,t)))∧Below w.heap.size w w'):=by
 have h0':gM x y=true∧gM z t=true:=by simpa [okB] using h0
 have ha:=O9 (a:=(x,y)) h0'.1;have hc:=Yy (a:=(z,t)) h0'.2;obtain ⟨z1,z2,z3⟩:=zY h0'.2
 have H:Hid (¬ (z≤0∧0≤t)→∀ W,Calls Tryz.prog 100 #[au #[Z I x,Z I y],au #[Z I z,Z I t],.func (.func 161) #[] #[]] W (fun e w'=>e= ah (dZ (sU (fun x y up=>oJ x 1000000000000 y up) (x,y) (z,t)))∧Below W.heap.size W w')):=zh fun hn W =>
  xk (fun x y up=>oJ x 1000000000000 y up) 161 #[] x y z t W (fun k up W' _=>aa9 _ _ up (ha k) (by unfold LB;split<;>simp only<;>omega) (hc k) W') (fun args W=>by rfl)
 have e:am3 (x,y) (z,t)=if z≤0∧0≤t then ((0,0),7) else sU (fun x y up=>oJ x 1000000000000 y up) (x,y) (z,t):=rfl
 rw [e];generalize sU (fun x y up=>oJ x 1000000000000 y up) (x,y) (z,t)=m at *;clear h0 h0' ha hc z1 z2 z3 e;obtain ⟨⟨m1,m2⟩,m3⟩:=m;have HX:=zh h;have HY:=zh k;clear h k
 by_cases hn:z≤0∧0≤t
 ·rw [if_pos hn];obtain ⟨g1,g2⟩:=hn;unfold dZ at *;simp only at *;clear H;obtain ⟨cx,lx,fx⟩:=HY.clf;go_enter Tryz.func160,Tryz.ntmps160
  go_wp2_with fail
  have hx:=aB.new w #[Z I 0,Z I 0] 40;refine bK rfl rfl bI Tryz.underlying40 rfl zk ?_;exact ⟨rfl,aJ⟩
 ·rw [if_neg hn];replace H:=zh (H.out hn);unfold dZ at *;simp only at *
  have g:decide (z≤0)=false∨(decide (z≤0)=true∧decide (0≤t)=false):=by
   by_cases g1:z≤0
   ·exact .inr ⟨decide_eq_true g1,decide_eq_false (fun g2=>hn ⟨g1,g2⟩)⟩
   ·exact .inl (decide_eq_false g1)
  clear hn;obtain ⟨cx,lx,fx⟩:=HX.clf;obtain ⟨cy,ly,fy⟩:=HY.clf
  rcases g with g1|⟨g1,g2⟩
  all_goals
   simp only [decide_eq_false_iff_not,decide_eq_true_eq] at *;go_enter Tryz.func160,Tryz.ntmps160
   go_wp2_with fail
   refine (H.out _).mono ?_;rintro e w1 ⟨rfl,hb1⟩;have hx:=aB.later (aB.new w #[Z I 0,Z I 0] 40) hb1;have cr:=hx.cell;have fr:=hx.free;have lr:=hx.lt;have hw:=Bt (show Below w.heap.size w (w.alloc (.cells #[Z I 0,Z I 0] 40)) from aJ) hb1;go_wp2_with fail
   refine bK rfl rfl bI Tryz.underlying40 rfl zk ?_;exact ⟨rfl,aJ⟩
theorem xV (x y z t:Int) (w:World):Calls Tryz.prog 74 #[au #[Z I x,Z I y],au #[Z I z,Z I t]] w (fun e w'=>e= ah (dZ (WV (x,y) (z,t)))∧Below w.heap.size w w'):=by
 have H:Hid (∀ W b c d,aB W b #[Z I x,Z I y] 40→aB W c #[Z I z,Z I t] 40→aB W d #[Z I x,Z I y,Z I z,Z I t] 40→Calls Tryz.prog 97 #[.func (.func 160) #[] #[aA (some ⟨c,0,none⟩),aA (some ⟨b,0,none⟩)],aj (some ⟨d,0,none⟩) 2 2] W (fun e w'=>e= ah (dZ (WV (x,y) (z,t)))∧Below W.heap.size W w')):=zh fun W b c d h1 h2 h3 =>
  mY 160 #[aA (some ⟨c,0,none⟩),aA (some ⟨b,0,none⟩)] _ _ _ _ W (zG.two h3) (fun h W' hW'=>ab0 x y z t h b c W' (h1.later hW') (h2.later hW')) (fun args W=>by rfl)
 generalize WV (x,y) (z,t)=m at *;obtain ⟨⟨m1,m2⟩,m3⟩:=m;unfold dZ at *;simp only at *;go_enter Tryz.func74,Tryz.ntmps74
 go_wp2_with fail
 obtain ⟨wx,EW,hz,X,Y,R,dX⟩:=al4 w #[Z I x,Z I y] 40 #[Z I z,Z I t] 40 #[Z I 0,Z I 0] 40 #[Z I x,Z I y,Z I z,Z I t] 40;rw [EW];clear EW;have HB:=zh hz;clear hz;refine (H.out _ _ _ _ X.out Y.out dX.out).mono ?_;rintro e w1 ⟨rfl,hb1⟩;replace R:=R.bl hb1;replace HB:=zh (Bt HB.out hb1);clear hb1 H;have hx:=R.out;have cx:=hx.cell;have fx:=hx.free;have lx:=hx.lt;have hw:=HB.out;go_wp2_with fail
 refine bK rfl rfl bI Tryz.underlying40 rfl zk ?_;exact ⟨rfl,aJ⟩
theorem TU (x y d:Int) (up:Bool) (hx:x.natAbs≤1000000000000000000) (hy:y.natAbs≤1000000000000000000) (hd:d≠0) (hd2:d.natAbs≤1000000000000000000) (c:Nat) (w:World) (h:aB w c #[Z I d] 3) :
  Calls Tryz.prog 204 #[Z I x,Z I y,ak up,aA (some ⟨c,0,none⟩)] w (fun e w'=>e= ah (aD #[Z I (oJ x y d up).1,ak (oJ x y d up).2])∧Below w.heap.size w w'):=by
 have H:=zh (fun W=>CF x y d up hx hy hd hd2 W);generalize oJ x y d up=z at *;obtain ⟨z1,z2⟩:=z;have cc:=h.cell;have lc:=h.lt;simp only at *;clear hx hy hd hd2 h;go_enter Tryz.func204,Tryz.ntmps204
 go_wp2_with fail
 refine (H.out _).mono ?_;rintro e w1 ⟨rfl,hb⟩;go_wp2_with fail
 go_ret2
 exact ⟨rfl,hb⟩
theorem TV (x y n d:Int) (h0:okB [(x,y)]=true) (bn bd b:Nat) (w:World) (hn:aB w bn #[Z I n] 3) (hd:aB w bd #[Z I d] 3) (h:aB w b #[Z I x,Z I y] 40) :
  Calls Tryz.prog 203 #[aA (some ⟨bn,0,none⟩),aA (some ⟨bd,0,none⟩),aA (some ⟨b,0,none⟩)] w (fun e w'=>e= ah (dZ (Vb (x,y) n d))∧Below w.heap.size w w'):=by
 have h0':gM x y=true:=by simpa [okB] using h0
 have ha:=O9 (a:=(x,y)) h0'
 have H:Hid (¬ (n< -1000000000000∨1000000000000<n∨d<1∨1000000000000<d)→∀ W,Below w.heap.size w W→Calls Tryz.prog 100 #[au #[Z I x,Z I y],au #[Z I n,Z I n],.func (.func 204) #[] #[aA (some ⟨bd,0,none⟩)]] W (fun e w'=>e= ah (dZ (sU (fun x y up=>oJ x y d up) (x,y) (n,n)))∧Below W.heap.size W w')):=zh fun hg W hW =>
  xk (fun x y up=>oJ x y d up) 204 #[aA (some ⟨bd,0,none⟩)] x y n n W (fun k up W' hW'=>TU _ _ d up (ha k) (by unfold LB;split<;>simp only<;>omega) zo zo bd W' ((hd.later hW).later hW')) (fun args W=>by rfl)
 have e:Vb (x,y) n d=if n< -1000000000000∨1000000000000<n∨d<1∨1000000000000<d then ((0,0),2) else sU (fun x y up=>oJ x y d up) (x,y) (n,n):=rfl
 rw [e];generalize sU (fun x y up=>oJ x y d up) (x,y) (n,n)=m at *;obtain ⟨⟨m1,m2⟩,m3⟩:=m;have HX:=zh h;have HN:=zh hn;have HD:=zh hd;clear h0 h0' ha e h hn hd;obtain ⟨cn,ln,fn⟩:=HN.clf;obtain ⟨cd,ld,fd⟩:=HD.clf
 by_cases hg:n< -1000000000000∨1000000000000<n∨d<1∨1000000000000<d
 ·rw [if_pos hg];clear H;have g:n< -1000000000000∨(¬ n< -1000000000000∧1000000000000<n)∨(¬ n< -1000000000000∧¬ 1000000000000<n∧d<1)∨(¬ n< -1000000000000∧¬ 1000000000000<n∧¬ d<1∧1000000000000<d):=by omega
  clear hg;unfold dZ;simp only
  rcases g with g1|⟨g1,g2⟩|⟨g1,g2,g3⟩|⟨g1,g2,g3,g4⟩
  all_goals
   go_enter Tryz.func203,Tryz.ntmps203
   go_wp2_with fail
   have hx:=aB.new w #[Z I 0,Z I 0] 40;refine bK rfl rfl bI Tryz.underlying40 rfl zk ?_;exact ⟨rfl,aJ⟩
 ·rw [if_neg hg];replace H:=zh (H.out hg);have g1:¬ n< -1000000000000:=by omega
  have g2:¬ 1000000000000<n:=by omega
  have g3:¬ d<1:=by omega
  have g4:¬ 1000000000000<d:=by omega
  clear hg;unfold dZ at *;simp only at *;obtain ⟨cx,lx,fx⟩:=HX.clf;go_enter Tryz.func203,Tryz.ntmps203
  go_wp2_with fail
  refine (H.out _ aJ).mono ?_;rintro e w1 ⟨rfl,hb1⟩;have hx:=aB.later (aB.new w #[Z I 0,Z I 0] 40) hb1;have cr:=hx.cell;have fr:=hx.free;have lr:=hx.lt;have hw:=Bt (show Below w.heap.size w (w.alloc (.cells #[Z I 0,Z I 0] 40)) from aJ) hb1;go_wp2_with fail
  refine bK rfl rfl bI Tryz.underlying40 rfl zk ?_;exact ⟨rfl,aJ⟩
theorem Un (x y lo hi:Int) (h0:okB [(x,y)]=true) (bn bd b:Nat) (w:World) (hn:aB w bn #[Z I lo] 3) (hd:aB w bd #[Z I hi] 3) (h:aB w b #[Z I x,Z I y] 40) :
  Calls Tryz.prog 159 #[aA (some ⟨bn,0,none⟩),aA (some ⟨bd,0,none⟩),aA (some ⟨b,0,none⟩)] w (fun e w'=>e= ah (dZ (am6 (x,y) lo hi))∧Below w.heap.size w w'):=by
 have HV:=zh (fun W=>nN lo hi W);have HM:=zh (fun W=>mo (min (max x lo) hi) (min (max y lo) hi) W);have e:am6 (x,y) lo hi=if gM lo hi then gN (min (max x lo) hi) (min (max y lo) hi) else ((0,0),2):=rfl
 rw [e];generalize gN (min (max x lo) hi) (min (max y lo) hi)=m at *;generalize gM lo hi=v at *;obtain ⟨⟨m1,m2⟩,m3⟩:=m;have HX:=zh h;have HN:=zh hn;have HD:=zh hd;clear h0 e h hn hd;unfold dZ at *;simp only at *;cases v
 ·obtain ⟨cn,ln,fn⟩:=HN.clf;obtain ⟨cd,ld,fd⟩:=HD.clf;go_enter Tryz.func159,Tryz.ntmps159
  go_wp2_with fail
  refine (HV.out _).mono ?_;rintro e w1 ⟨rfl,hb1⟩;have hx:=aB.later (aB.new w #[Z I 0,Z I 0] 40) hb1;have cr:=hx.cell;have fr:=hx.free;have lr:=hx.lt;have hw:=Bt (show Below w.heap.size w (w.alloc (.cells #[Z I 0,Z I 0] 40)) from aJ) hb1;go_wp2_with fail
  refine bK rfl rfl bI Tryz.underlying40 rfl zk ?_;exact ⟨rfl,aJ⟩
 ·obtain ⟨cn,ln,fn⟩:=HN.clf;obtain ⟨cd,ld,fd⟩:=HD.clf;go_enter Tryz.func159,Tryz.ntmps159
  go_wp2_with fail
  refine (HV.out _).mono ?_;rintro e w1 ⟨rfl,hb1⟩;have hw:=Bt (show Below w.heap.size w (w.alloc (.cells #[Z I 0,Z I 0] 40)) from aJ) hb1;have hx:=aB.later (aB.new w #[Z I 0,Z I 0] 40) hb1;clear cn ln fn cd ld fd;obtain ⟨cn,ln,fn⟩:=(HN.bl hw).clf;obtain ⟨cd,ld,fd⟩:=(HD.bl hw).clf;obtain ⟨cx,lx,fx⟩:=(HX.bl hw).clf;go_wp2_with fail
  refine (HM.out _).mono ?_;rintro e w2 ⟨rfl,hb2⟩;replace hx:=hx.later hb2;replace hw:=Bt hw hb2;have cr:=hx.cell;have fr:=hx.free;have lr:=hx.lt;clear cn ln fn cd ld fd cx lx fx hb1 hb2;go_wp2_with fail
  refine bK rfl rfl bI Tryz.underlying40 rfl zk ?_;exact ⟨rfl,aJ⟩
theorem EM (x y n d:Int) (w:World):Calls Tryz.prog 130 #[au #[Z I x,Z I y],Z I n,Z I d] w (fun e w'=>e= ah (dZ (qw (x,y) n d))∧Below w.heap.size w w'):=by
 have H:Hid (∀ W bn bd b c,aB W bn #[Z I n] 3→aB W bd #[Z I d] 3→aB W b #[Z I x,Z I y] 40→aB W c #[Z I x,Z I y] 40→Calls Tryz.prog 97 #[.func (.func 203) #[] #[aA (some ⟨bn,0,none⟩),aA (some ⟨bd,0,none⟩),aA (some ⟨b,0,none⟩)],aj (some ⟨c,0,none⟩) 1 1] W (fun e w'=>e= ah (dZ (qw (x,y) n d))∧Below W.heap.size W w')):=zh fun W bn bd b c h1 h2 h3 h4 =>
  mY 203 #[aA (some ⟨bn,0,none⟩),aA (some ⟨bd,0,none⟩),aA (some ⟨b,0,none⟩)] _ _ _ _ W (zG.one h4) (fun h W' hW'=>TV x y n d h bn bd b W' (h1.later hW') (h2.later hW') (h3.later hW')) (fun args W=>by rfl)
 generalize qw (x,y) n d=z at *;obtain ⟨⟨z1,z2⟩,z3⟩:=z;unfold dZ at *;simp only at *;go_enter Tryz.func130,Tryz.ntmps130
 go_wp2_with fail
 obtain ⟨wx,EW,hz,X,N,D,R,dX⟩:=ap3 w #[Z I x,Z I y] 40 #[Z I n] 3 #[Z I d] 3 #[Z I 0,Z I 0] 40 #[Z I x,Z I y] 40;rw [EW];clear EW;have HB:=zh hz;clear hz;refine (H.out _ _ _ _ _ N.out D.out X.out dX.out).mono ?_;rintro e w1 ⟨rfl,hb1⟩;replace R:=R.bl hb1;replace HB:=zh (Bt HB.out hb1);clear hb1 H;have hx:=R.out;have cx:=hx.cell;have fx:=hx.free;have lx:=hx.lt;have hw:=HB.out;go_wp2_with fail
 refine bK rfl rfl bI Tryz.underlying40 rfl zk ?_;exact ⟨rfl,aJ⟩
theorem XQ (x y n d:Int) (w:World):Calls Tryz.prog 73 #[au #[Z I x,Z I y],Z I n,Z I d] w (fun e w'=>e= ah (dZ (WY (x,y) n d))∧Below w.heap.size w w'):=by
 have H:Hid (∀ W bn bd b c,aB W bn #[Z I n] 3→aB W bd #[Z I d] 3→aB W b #[Z I x,Z I y] 40→aB W c #[Z I x,Z I y] 40→Calls Tryz.prog 97 #[.func (.func 159) #[] #[aA (some ⟨bn,0,none⟩),aA (some ⟨bd,0,none⟩),aA (some ⟨b,0,none⟩)],aj (some ⟨c,0,none⟩) 1 1] W (fun e w'=>e= ah (dZ (WY (x,y) n d))∧Below W.heap.size W w')):=zh fun W bn bd b c h1 h2 h3 h4 =>
  mY 159 #[aA (some ⟨bn,0,none⟩),aA (some ⟨bd,0,none⟩),aA (some ⟨b,0,none⟩)] _ _ _ _ W (zG.one h4) (fun h W' hW'=>Un x y n d h bn bd b W' (h1.later hW') (h2.later hW') (h3.later hW')) (fun args W=>by rfl)
 generalize WY (x,y) n d=z at *;obtain ⟨⟨z1,z2⟩,z3⟩:=z;unfold dZ at *;simp only at *;go_enter Tryz.func73,Tryz.ntmps73
 go_wp2_with fail
 obtain ⟨wx,EW,hz,X,N,D,R,dX⟩:=ap3 w #[Z I x,Z I y] 40 #[Z I n] 3 #[Z I d] 3 #[Z I 0,Z I 0] 40 #[Z I x,Z I y] 40;rw [EW];clear EW;have HB:=zh hz;clear hz;refine (H.out _ _ _ _ _ N.out D.out X.out dX.out).mono ?_;rintro e w1 ⟨rfl,hb1⟩;replace R:=R.bl hb1;replace HB:=zh (Bt HB.out hb1);clear hb1 H;have hx:=R.out;have cx:=hx.cell;have fx:=hx.free;have lx:=hx.lt;have hw:=HB.out;go_wp2_with fail
 refine bK rfl rfl bI Tryz.underlying40 rfl zk ?_;exact ⟨rfl,aJ⟩
theorem Xz (n:Int) (w:World):Calls Tryz.prog 131 #[Z I n] w (fun e w'=>e= ah (dZ (Ut n))∧Below w.heap.size w w'):=by
 have H:Hid (∀ W,Calls Tryz.prog 183 #[Z I n,Z I n] W (fun e w'=>e= ah (dZ (Ut n))∧Below W.heap.size W w')):=zh fun W=>by
  have h:=mE n n W;unfold Ut dZ
  revert h
  cases gM n n<;>exact fun h=>h
 generalize Ut n=z at *;obtain ⟨⟨z1,z2⟩,z3⟩:=z;unfold dZ at *;simp only at *;go_enter Tryz.func131,Tryz.ntmps131
 go_wp2_with fail
 obtain ⟨wx,EW,hz,R⟩:=zD w #[Z I 0,Z I 0] 40;rw [EW];clear EW;have HB:=zh hz;clear hz;refine (H.out _).mono ?_;rintro e w1 ⟨rfl,hb1⟩;replace R:=R.bl hb1;replace HB:=zh (Bt HB.out hb1);clear hb1 H;have hx:=R.out;have cx:=hx.cell;have fx:=hx.free;have lx:=hx.lt;have hw:=HB.out;go_wp2_with fail
 refine bK rfl rfl bI Tryz.underlying40 rfl zk ?_;exact ⟨rfl,aJ⟩
theorem XG (lo hi:Int) (s t:ByteArray) (b:Nat) (w:World) (h:aB w b #[Z I lo,Z I hi] 40) (HE:∀ W,Below w.heap.size w W→Calls Tryz.prog 196 #[Z I hi] W (fun e w'=>e= ah (aD #[au #[O s,O t],Z I 0])∧Below W.heap.size W w')) :
  Calls Tryz.prog 285 #[aA (some ⟨b,0,none⟩)] w (fun e w'=>e= ah (aD #[au #[O s,O t],Z I 0])∧Below w.heap.size w w'):=by
 have H:=zh HE;clear HE;go_enter Tryz.func285,Tryz.ntmps285
 have hb:=h.alloc (.cells #[O ⟨#[]⟩,O ⟨#[]⟩] 32);have cb:=hb.cell;have lb:=hb.lt;go_wp2_with fail
 clear cb lb hb;obtain ⟨wx,EW,hz,HR⟩:=zD w #[O ⟨#[]⟩,O ⟨#[]⟩] 32;rw [EW];clear EW;refine (H.out _ hz).mono ?_;rintro e w1 ⟨rfl,hb1⟩;have hr:=HR.out.later hb1;have cr:=hr.cell;have fr:=hr.free;have hw:=Bt hz hb1;go_wp2_with fail
 refine bK rfl rfl ((hr.set 0 _).set 1 _) Tryz.underlying32 rfl zk ?_;exact ⟨rfl,(hw.setCell (p:=⟨w.heap.size,0,none⟩) (aC _) _).setCell (p:=⟨w.heap.size,1,none⟩) (aC _) _⟩
theorem I7 (lo hi:Int) (s t:ByteArray) (w:World) (hv:gM lo hi=true) (HE:∀ W,Below w.heap.size w W→Calls Tryz.prog 196 #[Z I hi] W (fun e w'=>e= ah (aD #[au #[O s,O t],Z I 0])∧Below W.heap.size W w')) :
  Calls Tryz.prog 245 #[au #[Z I lo,Z I hi]] w (fun e w'=>e= ah (aD #[au #[O s,O t],Z I 0])∧Below w.heap.size w w'):=by
 have H:Hid (∀ W b q,Below w.heap.size w W→aB W b #[Z I lo,Z I hi] 40→aB W q #[Z I lo,Z I hi] 40→Calls Tryz.prog 283 #[.func (.func 285) #[] #[aA (some ⟨b,0,none⟩)],aj (some ⟨q,0,none⟩) 1 1] W (fun e w'=>e= ah (aD #[au #[O s,O t],Z I 0])∧Below W.heap.size W w')):=zh fun W b q hW h1 h2 =>
  KW 285 #[aA (some ⟨b,0,none⟩)] lo hi s t q W hv h2 (fun W' hW'=>XG lo hi s t b W' (h1.later hW') (fun W2 h3=>HE W2 (Bt hW (Bt hW' h3)))) (fun args W=>by rfl)
 clear HE hv;go_enter Tryz.func245,Tryz.ntmps245
 go_wp2_with fail
 obtain ⟨wx,EW,hz,X,R,dX⟩:=LK w #[Z I lo,Z I hi] 40 #[O ⟨#[]⟩,O ⟨#[]⟩] 32 #[Z I lo,Z I hi] 40;rw [EW];clear EW;refine (H.out _ _ _ hz X.out dX.out).mono ?_;rintro e w1 ⟨rfl,hb1⟩;have hr:=R.out.later hb1;have cr:=hr.cell;have fr:=hr.free;have hw:=Bt hz hb1;clear H;go_wp2_with fail
 refine bK rfl rfl ((hr.set 0 _).set 1 _) Tryz.underlying32 rfl zk ?_;exact ⟨rfl,(hw.setCell (p:=⟨w.heap.size+1,0,none⟩) (by show w.heap.size≤w.heap.size+1;omega) _).setCell (p:=⟨w.heap.size+1,1,none⟩) (by show w.heap.size≤w.heap.size+1;omega) _⟩
end Go.Proofs.aW
namespace Go.Proofs.whole
open Go Go.RowKit Go.SW Go.Num Go.Mem Go.Proofs Go.Dec
theorem yx (z:Int) (hz:(Lib.decDigits z.natAbs).length≤600) (w:World) :
  Calls Tryz.prog 254 #[dW z] w (fun e w'=>∃ v,e= ah (aD #[v,ak true])∧Below w.heap.size w w'∧fK w' v z):=by
 have HC:=zh (tQ ⟨(Lib.itoa z).toArray⟩);have e1:(⟨(Lib.itoa z).toArray⟩:ByteArray).data.toList=Lib.itoa z:=rfl;rw [e1,KU] at HC;have hd:=nU z.natAbs;have hn:=oD z.natAbs;have hl:=vE z.natAbs;have hh:(Lib.decDigits z.natAbs).head? =some 48→z=0:=fun h=>Int.natAbs_eq_zero.1 (vF h);have hz1:z=0→(Lib.decDigits z.natAbs).length≤1:=fun h=>by rw [h];decide+kernel
 unfold dW;generalize (Lib.itoa z).toArray=txt at *;generalize Lib.decDigits z.natAbs=d at *;have hsz:(⟨d.toArray⟩:ByteArray).size=d.length:=rfl;have g0:((d.length:Int) == 0)=false:=beq_eq_false_iff_ne.2 zo;have g1:decide ((600:Int)<(d.length:Int))=false:=by simp;omega
 have g2:¬ d=[]:=fun h=>by rw [h] at hl;simp at hl
 have hbx:aB (w.alloc (.cells #[aj none 0 0,ak false] 257 (0,0))) w.heap.size #[aj none 0 0,ak false] 257:=aB.new _ _ _;have hbl:Below w.heap.size w (w.alloc (.cells #[aj none 0 0,ak false] 257 (0,0))):=(Below.refl _ _).alloc (aC _) _;have sJ:=zh hbx;have HD:=zh hd;have HN:=zh hn;have HH:=zh hh;have HZ:=zh hz1;clear hbx hd hn hh hz1 e1;go_enter Tryz.func254,Tryz.ntmps254
 go_wp2_with (go_at_call 273;refine (HC.out _).mono ?_;rintro e w1 ⟨rfl,rfl⟩)
 go_loopw [23] (fun v wr=>∃ i:Nat,v= Z I (i:Int)∧i≤d.length∧w.alloc (.cells #[aj none 0 0,ak false] 257 (0,0))=wr) (fun v _=>d.length - (intOf v).toNat)
 case atStart=>exact ⟨0,rfl,by omega,rfl⟩
 case round =>
  obtain ⟨i,rfl,hi,rfl⟩:=hrel
  rcases aR i d.length with hlt|hge
  ·have hgt:(⟨d.toArray⟩:ByteArray)[i]'(by exact hlt)=d[i]:=rfl;have hdig:=HD.out d[i] (fq hlt);have q1:decide (((⟨d.toArray⟩:ByteArray)[i]'(by exact hlt)).toNat<(48:Int))=false:=by rw [hgt];simp;omega
   have q2:decide ((57:Int)<((⟨d.toArray⟩:ByteArray)[i]'(by exact hlt)).toNat)=false:=by rw [hgt];simp;omega
   clear hgt hdig;go_wp2_with fail
   exact ⟨⟨i+1,rfl,by omega,trivial⟩,by simp only [intOf];omega⟩
  ·obtain rfl:i=d.length:=by omega
   have hgt:(⟨d.toArray⟩:ByteArray)[0]'(by exact hl)=d[0]:=rfl;have HG:=zh (vY ⟨d.toArray⟩ (by rw [hsz];omega) HD.out (w.alloc (.cells #[aj none 0 0,ak false] 257 (0,0))));have e2:num (⟨d.toArray⟩:ByteArray).data.toList=z.natAbs:=HN.out;rw [e2] at HG;have hx:d[0].toNat=48→z=0:=fun h=>HH.out (by rw [List.head?_eq_getElem?, List.getElem?_eq_getElem hl];exact congrArg some (UInt8.toNat_inj.mp h));cases hq:decide (d[0].toNat=48) with
   | true =>
    have h0:=hx (of_decide_eq_true hq);have h1:=HZ.out h0;have q1:decide ((1:Int)<(d.length:Int))=false:=by simp;omega
    have q2:decide (z<0)=false:=by simp;omega
    have q0:((((⟨d.toArray⟩:ByteArray)[0]'(by exact hl)).toNat:Int) == 48)=true:=by rw [hgt];simp at hq ⊢;omega
    clear hgt hx hq e2 hge hi h0;go_wp2_with (go_at_call 292;refine (HG.out).mono ?_;rintro e w2 ⟨v,rfl,hb2,hv⟩;have HV:=zh hv;obtain ⟨pa,ca,rfl, -⟩:=hv;have yM:=sJ.out.later hb2;have cb:=yM.cell;have fb:=yM.free)
    refine bK rfl rfl (((sJ.out.later hb2).set 0 _).set 1 _) Tryz.underlying257 rfl zk ?_;refine ⟨_,rfl,((Bt hbl hb2).setCell (aC _) _).setCell (aC _) _,pa,_,ca,?_,(HV.out.setOther yM zd 0 _).setOther (yM.set 0 _) zd 1 _⟩;rw [q2];rfl
   | false =>
    have q0:((((⟨d.toArray⟩:ByteArray)[0]'(by exact hl)).toNat:Int) == 48)=false:=by rw [hgt];simp at hq ⊢;omega
    clear hgt hx hq e2 hge hi;go_wp2_with (go_at_call 292;refine (HG.out).mono ?_;rintro e w2 ⟨v,rfl,hb2,hv⟩;have HV:=zh hv;obtain ⟨pa,ca,rfl, -⟩:=hv;have yM:=sJ.out.later hb2;have cb:=yM.cell;have fb:=yM.free)
    refine bK rfl rfl (((sJ.out.later hb2).set 0 _).set 1 _) Tryz.underlying257 rfl zk ?_;exact ⟨_,rfl,((Bt hbl hb2).setCell (aC _) _).setCell (aC _) _,pa,_,ca,rfl,(HV.out.setOther yM zd 0 _).setOther (yM.set 0 _) zd 1 _⟩
end Go.Proofs.whole
namespace Go.Proofs.whole
open Go Go.RowKit Go.SW Go.Num Go.Mem Go.Proofs
theorem iU (v:Value) (n:Nat) (w:World) (h:bZ w v n) :
  Calls Tryz.prog 295 #[v] w fun e w'=>e= ah (ak (decide (n=0)))∧w=w':=zs4
def xu (a b:Nat):Int:=if a<b then -1 else if b<a then 1 else 0
theorem qZ {a b:Nat} (h:a<b):xu a b= -1:=if_pos h
theorem qo {a b:Nat} (h:b<a):xu a b=1:=by unfold xu;rw [if_neg zo,if_pos h]
theorem sW (a:Nat):xu a a=0:=by unfold xu;simp
theorem PZ (a b:Nat) (w:World):Calls Tryz.prog 275 #[Z I a,Z I b] w fun e w'=>e= ah (Z I (xu a b))∧w=w':=zs5
theorem PY (a b:Nat) (w:World):Calls Tryz.prog 276 #[Z .u32 a,Z .u32 b] w fun e w'=>e= ah (Z I (xu a b))∧w=w':=zs6
theorem AY (a b:Option Addr) (m n c d:Nat) (w:World) (h:m≠n) :
  Calls Tryz.prog 317 #[aj a m c,aj b n d] w fun e w'=>e= ah (Z I (xu m n))∧w=w':=zs7
theorem yX (pa pb:Option Addr) (ca cb:Nat) (l m:List Nat) (w:World) (hlen:l.length=m.length) (hm:l.length≤9223372036854775807) (hl:gT 1000000000 l) (hmd:gT 1000000000 m)
   (hc:∀ k,k<l.length→∃ b off,pa=some ⟨b,off,none⟩∧b<w.heap.size∧w.cell? ⟨b,off+k,none⟩=some (.int .u32 (l.getD k 0:Nat)))
   (hd:∀ k,k<m.length→∃ b off,pb=some ⟨b,off,none⟩∧b<w.heap.size∧w.cell? ⟨b,off+k,none⟩=some (.int .u32 (m.getD k 0:Nat))) :
    Calls Tryz.prog 317 #[aj pa l.length ca,aj pb m.length cb] w fun e w'=>e= ah (Z I (xu (val 1000000000 l) (val 1000000000 m)))∧Below w.heap.size w w':=zs8
theorem ku (x y:Value) (a b:Nat) (w:World) (hx:bZ w x a) (hy:bZ w y b) :
  Calls Tryz.prog 317 #[x,y] w fun e w'=>e= ah (Z I (xu a b))∧Below w.heap.size w w':=zs9
theorem AJ:(Tryz.prog.info? 61).map (fun i=>(i.zero,i.size,i.bytes))=some (some (.int .u32 0),1,4):=by kernel_rfl
theorem zO {B:Nat} {l m s:List Nat} {k c d c':Nat} (hk:k<l.length) (hs:s.length=k) (he:val B s+c*B^k=val B (l.take k)+val B (m.take k)) (h:d+c'*B=l.getD k 0+c+m.getD k 0) :
  val B (s++[d])+c'*B^(k+1)=val B (l.take (k+1))+val B (m.take (k+1)):=as5
theorem zN (pl ps:Option Addr) (cl cs:Nat) (l m:List Nat) (v0 v1:Value) (w:World) (hl:gT 1000000000 l) (hmd:gT 1000000000 m) (hb1:l.length≤1099511627776) (hml:m.length≤l.length)
   (hv:(v0= aj pl l.length cl∧v1= aj ps m.length cs)∨(v1= aj pl l.length cl∧v0= aj ps m.length cs∧m.length<l.length))
   (hc:∀ k,k<l.length→∃ b off,pl=some ⟨b,off,none⟩∧b<w.heap.size∧w.cell? ⟨b,off+k,none⟩=some (.int .u32 (l.getD k 0:Nat)))
   (hd:∀ k,k<m.length→∃ b off,ps=some ⟨b,off,none⟩∧b<w.heap.size∧w.cell? ⟨b,off+k,none⟩=some (.int .u32 (m.getD k 0:Nat))) :
    Calls Tryz.prog 315 #[v0,v1] w fun e w'=>∃ s v,e= ah v∧Below w.heap.size w w'∧nY w' v s∧gT 1000000000 s∧val 1000000000 s=val 1000000000 l+val 1000000000 m∧l.length≤s.length∧(l.length<s.length→Top s):=as4
theorem BF (x y:Value) (a b:Nat) (w:World) (hx:bZ w x a) (hy:bZ w y b) (ha:sz 1000000000 a≤1099511627776) (hb:sz 1000000000 b≤1099511627776) :
  Calls Tryz.prog 315 #[x,y] w fun e w'=>∃ v,e= ah v∧Below w.heap.size w w'∧bZ w' v (a+b):=zs12
theorem CX (pl ps:Option Addr) (cl cs:Nat) (l m:List Nat) (w:World) (hl:gT 1000000000 l) (hmd:gT 1000000000 m) (hb1:l.length≤1099511627776) (hml:m.length≤l.length) (hle:val 1000000000 m≤val 1000000000 l)
   (hc:∀ k,k<l.length→∃ b off,pl=some ⟨b,off,none⟩∧b<w.heap.size∧w.cell? ⟨b,off+k,none⟩=some (.int .u32 (l.getD k 0:Nat)))
   (hd:∀ k,k<m.length→∃ b off,ps=some ⟨b,off,none⟩∧b<w.heap.size∧w.cell? ⟨b,off+k,none⟩=some (.int .u32 (m.getD k 0:Nat))) :
    Calls Tryz.prog 326 #[aj pl l.length cl,aj ps m.length cs] w fun e w'=>∃ v,e= ah v∧Below w.heap.size w w'∧bZ w' v (val 1000000000 l - val 1000000000 m):=as3
theorem CZ (x y:Value) (a b:Nat) (w:World) (hx:bZ w x a) (hy:bZ w y b) (ha:sz 1000000000 a≤1099511627776) (hle:b≤a) :
  Calls Tryz.prog 326 #[x,y] w fun e w'=>∃ v,e= ah v∧Below w.heap.size w w'∧bZ w' v (a - b):=as2
theorem O8 {x y:Nat} (hx:x<1000000000) (hy:y<1000000000):(0:Int)≤(x:Int)*(y:Int)∧(x:Int)*(y:Int)≤999999998000000001:=by
 have h:x*y≤999999999*999999999:=fA zo zo;rw [← Int.natCast_mul];omega
theorem Cm (pl ps:Option Addr) (cl cs:Nat) (l m:List Nat) (w:World) (hl:gT 1000000000 l) (hmd:gT 1000000000 m) (hb1:l.length≤1099511627776) (hb2:m.length≤1099511627776)
   (hc:∀ k,k<l.length→∃ b off,pl=some ⟨b,off,none⟩∧b<w.heap.size∧w.cell? ⟨b,off+k,none⟩=some (.int .u32 (l.getD k 0:Nat)))
   (hd:∀ k,k<m.length→∃ b off,ps=some ⟨b,off,none⟩∧b<w.heap.size∧w.cell? ⟨b,off+k,none⟩=some (.int .u32 (m.getD k 0:Nat))) :
    Calls Tryz.prog 296 #[aj pl l.length cl,aj ps m.length cs] w fun e w'=>∃ v,e= ah v∧Below w.heap.size w w'∧bZ w' v (val 1000000000 l*val 1000000000 m):=as1
theorem kE (x y:Value) (a b:Nat) (w:World) (hx:bZ w x a) (hy:bZ w y b) (ha:sz 1000000000 a≤1099511627776) (hb:sz 1000000000 b≤1099511627776) :
  Calls Tryz.prog 296 #[x,y] w fun e w'=>∃ v,e= ah v∧Below w.heap.size w w'∧bZ w' v (a*b):=as0
theorem xq (pl:Option Addr) (cl:Nat) (l:List Nat) (d:Nat) (w:World) (hl:gT 1000000000 l) (hb1:l.length≤1099511627776) (hd0:0<d) (hd1:d≤1000000000)
   (hc:∀ k,k<l.length→∃ b off,pl=some ⟨b,off,none⟩∧b<w.heap.size∧w.cell? ⟨b,off+k,none⟩=some (.int .u32 (l.getD k 0:Nat))) :
    Calls Tryz.prog 316 #[aj pl l.length cl,Z .u32 d] w fun e w'=>∃ v,e= ah (aD #[v,Z .u32 (val 1000000000 l%d:Nat)])∧Below w.heap.size w w'∧bZ w' v (val 1000000000 l / d):=ar9
theorem yh (x:Value) (a d:Nat) (w:World) (hx:bZ w x a) (ha:sz 1000000000 a≤1099511627776) (hd0:0<d) (hd1:d≤1000000000) :
  Calls Tryz.prog 316 #[x,Z .u32 d] w fun e w'=>∃ v,e= ah (aD #[v,Z .u32 (a%d:Nat)])∧Below w.heap.size w w'∧bZ w' v (a / d):=by
 obtain ⟨pa,ca,rfl,h1,h2,h3⟩:=nY.read hx.DU;have:=xq pa ca _ d w (dw zo a) ha hd0 hd1 h3
 rwa [bY zo] at this
theorem nT (a:Nat) (w:World) (ha:a≤18446744073709551615) :
  Calls Tryz.prog 314 #[Z .u64 a] w fun e w'=>∃ v,e= ah v∧Below w.heap.size w w'∧bZ w' v a:=ar8
def zy (w:World) (g k:Nat) (pre u post v:List Nat) (e:Ending) (w':World):Prop :=
 e= ah (Z .u32 (val 1000000000 u / val 1000000000 v:Nat))∧w.grownBy w' (some g) ∧
   ∃ s,aB w' g (eH (pre++(s++[0])++post)).toArray 61∧s.length=k+2∧gT 1000000000 s∧val 1000000000 s=val 1000000000 u%val 1000000000 v
theorem Aw (g j k cu:Nat) (pv:Option Addr) (cv:Nat) (pre u post v:List Nat) (w:World) (hj:pre.length=j) (hu:u.length=k+3) (hv:v.length=k+2) (du:gT 1000000000 u) (dv:gT 1000000000 v) (hk:k≤1099511627776)
  (ht:1000000000≤2*v.getD (k+1) 0) (hlt:val 1000000000 u<val 1000000000 v*1000000000) (ak1:aB w g (eH (pre++u++post)).toArray 61)
  (hd:∀ i,i<k+2→∃ b off,pv=some ⟨b,off,none⟩∧b≠g∧b<w.heap.size∧w.cell? ⟨b,off+i,none⟩=some (.int .u32 (v.getD i 0:Nat))) :
  Calls Tryz.prog 333 #[aj (some ⟨g,j,none⟩) (k+3) cu,aj pv (k+2) cv] w (zy w g k pre u post v):=ar7
def oF (w:World) (q r:Nat) (e:Ending) (w':World):Prop:=∃ vq vr,e= ah (aD #[vq,vr])∧Below w.heap.size w w'∧bZ w' vq q∧bZ w' vr r
theorem AV (x y:Value) (a b:Nat) (w:World) (hx:bZ w x a) (hy:bZ w y b) (h:a<b) :
  Calls Tryz.prog 313 #[x,y] w (oF w (a / b) (a%b)):=ar6
theorem yT (pa pb:Option Addr) (ca cb:Nat) (a b:Nat) (w:World) (hx:bZ w (aj pa (sz 1000000000 a) ca) a) (hy:bZ w (aj pb 1 cb) b) (hb0:0<b) (hb1:b<1000000000) (h:b≤a) (ha:sz 1000000000 a≤549755813888) :
  Calls Tryz.prog 313 #[aj pa (sz 1000000000 a) ca,aj pb 1 cb] w (oF w (a / b) (a%b)):=ar5
theorem AU (pa pb:Option Addr) (ca cb:Nat) (a b k:Nat) (w:World) (hx:bZ w (aj pa (sz 1000000000 a) ca) a) (hy:bZ w (aj pb (k+2) cb) b) (hsb:sz 1000000000 b=k+2) (h:b≤a) (ha:sz 1000000000 a≤549755813888) :
  Calls Tryz.prog 313 #[aj pa (sz 1000000000 a) ca,aj pb (k+2) cb] w (oF w (a / b) (a%b)):=ar4
theorem iI (x y:Value) (a b:Nat) (w:World) (hx:bZ w x a) (hy:bZ w y b) (hb:0<b) (ha:sz 1000000000 a≤549755813888) :
  Calls Tryz.prog 313 #[x,y] w (oF w (a / b) (a%b)):=ar3
end Go.Proofs.whole
namespace Go.Proofs.whole
open Go Go.RowKit Go.SW Go.Num Go.Mem Go.Proofs Go.Proofs.jN Go.Dec
theorem MF (B b d wd:Nat) (l:List UInt8) (w:World) (h:Uc B b (Lib.byteCells l) w) (hB:B≤w.heap.size) (hw:wd≤9) (hd:d<1000000000) (hl:l.length≤140737488355000) (ht:Pow w) :
  Calls Tryz.prog 328 #[Z .u32 d,Z I wd,aA (some ⟨b,0,none⟩)] w fun e w'=>e= ah (aD #[])∧Uc B b (Lib.byteCells (l++(bW (wd - (Lib.decDigits d).length) 48++Lib.decDigits d))) w'∧Below B w w':=ar2
def EJ (w:World) (n:Nat) (e:Ending) (w':World):Prop:=e= ah (O ⟨(Lib.decDigits n).toArray⟩)∧Below w.heap.size w w'
theorem sw (x:Value) (a:Nat) (w:World) (hx:bZ w x a) (ha:sz 1000000000 a≤1099511627776) (ht:Pow w) :
  Calls Tryz.prog 294 #[x] w (EJ w a):=ar1
theorem nu (x:Value) (a:Nat) (w:World) (hx:bZ w x a) (ha:sz 1000000000 a≤1099511627776) (ht:Pow w) :
  Calls Tryz.prog 293 #[x] w (fun e w'=>e= ah (Z I ((Lib.decDigits a).length:Nat))∧Below w.heap.size w w'):=ar0
end Go.Proofs.whole
namespace Go.Proofs.whole
open Go Go.RowKit Go.SW Go.Num Go.Mem Go.Proofs
theorem bZ.inj {w:World} {v:Value} {m n:Nat} (h:bZ w v m) (k:bZ w v n):m=n:=aq9
open Classical in
noncomputable def Db (w:World) (v:Value):Nat:=if h:∃ n,bZ w v n then h.choose else 0
theorem uS {w:World} {v:Value} {n:Nat} (h:bZ w v n):Db w v=n:=by
 unfold Db;rw [dif_pos ⟨n,h⟩];exact bZ.inj (Exists.choose_spec (⟨n,h⟩:∃ n,bZ w v n)) h
end Go.Proofs.whole
namespace Go.Proofs.whole
open Go Go.RowKit Go.SW Go.Num Go.Mem Go.Proofs Go.Dec
theorem gD (m:Value) (n:Nat) (b:Bool) (w:World) (h:bZ w m n) :
  Calls Tryz.prog 256 #[m,ak b] w (fun e w'=>∃ v,e= ah v∧Below w.heap.size w w'∧fK w' v (jh n b)):=aq8
theorem Jt (pa pb:Option Addr) (l m ca cb:Nat) (z y:Int) (b:Bool) (w:World) (h:bZ w (aj pa l ca) z.natAbs) (h2:bZ w (aj pb m cb) y.natAbs) (hz:decide (z<0)=b) (hy:decide (y<0)=b) (kz:sz 1000000000 z.natAbs≤549755813888) (ky:sz 1000000000 y.natAbs≤549755813888) :
  Calls Tryz.prog 308 #[au #[aj pa l ca,ak b],au #[aj pb m cb,ak b]] w (fun e w'=>∃ v,e= ah v∧Below w.heap.size w w'∧fK w' v (z+y)):=aq7
theorem Ju (pa pb:Option Addr) (l m ca cb:Nat) (z y:Int) (b:Bool) (w:World) (h:bZ w (aj pa l ca) z.natAbs) (h2:bZ w (aj pb m cb) y.natAbs) (hz:decide (z<0)=b) (hy:decide (y<0)= !b) (kz:sz 1000000000 z.natAbs≤549755813888) (ky:sz 1000000000 y.natAbs≤549755813888) :
  Calls Tryz.prog 308 #[au #[aj pa l ca,ak b],au #[aj pb m cb,ak !b]] w (fun e w'=>∃ v,e= ah v∧Below w.heap.size w w'∧fK w' v (z+y)):=aq6
theorem wZ (v u:Value) (z y:Int) (w:World) (h:fK w v z) (h2:fK w u y) (kz:sz 1000000000 z.natAbs≤549755813888) (ky:sz 1000000000 y.natAbs≤549755813888) :
  Calls Tryz.prog 308 #[v,u] w (fun e w'=>∃ v,e= ah v∧Below w.heap.size w w'∧fK w' v (z+y)):=aq5
end Go.Proofs.whole
namespace Go.Proofs.whole
open Go Go.RowKit Go.SW Go.Num Go.Mem Go.Proofs
theorem JI (x:Value) (a k:Nat) (w:World) (hx:bZ w x a) (hk:k≤9223372036854775807) (hb:∀ i,i≤k→sz 1000000000 (a^i)≤1099511627776) (ha:sz 1000000000 a≤1099511627776) :
  Calls Tryz.prog 257 #[x,Z I (k:Int)] w (fun e w'=>∃ v,e= ah v∧Below w.heap.size w w'∧bZ w' v (a^k)):=by
 have hmf:∀ (fn:Fn) (first cap:Array Value) (w:World),(Instr.makeFunc fn first cap).run Tryz.prog w= .ok (.func fn first cap) w:=fun _ _ _ _=>rfl;obtain ⟨pa,l,ca,rfl⟩:=hx.slice;have HX:=zh hx;have HBD:=zh hb;have HA:=zh ha;clear hx hb ha;go_enter Tryz.func257,Tryz.ntmps257
 go_wp2_with fail
 have hb1:Below w.heap.size w (w.alloc (.cells #[Z .u32 1] 61)):=aJ;have h1:Hid (bZ (w.alloc (.cells #[Z .u32 1] 61)) (aj (some ⟨w.heap.size,0,none⟩) 1 1) 1):=zh (by have:=bZ.lit (w:=w) (d:=1) zo zo;simpa using this);obtain ⟨w1,EW⟩:∃ y,w.alloc (.cells #[Z .u32 1] 61)=y:=⟨_,rfl⟩;rw [EW] at hb1 h1 ⊢;have HB1:=zh hb1;clear EW hb1
 go_loopw [5,11] (fun pv iv wr=>∃ i:Nat,iv= Z I (i:Int)∧i≤k∧Hid (bZ wr pv (a^i))∧Below w1.heap.size w1 wr) (fun _ iv _=>k - (intOf iv).toNat)
 case atStart=>exact ⟨0,rfl,by omega,zh (by rw [Nat.pow_zero];exact h1.out),Below.refl _ _⟩
 case round =>
  obtain ⟨i,rfl,hi,HP,hb⟩:=hrel;obtain ⟨pp,lp,cp,rfl⟩:=HP.out.slice
  rcases aR i k with hlt|hge
  ·have HT:=zh (kE _ _ a (a^i) wr (HX.out.later (Bt HB1.out hb)) HP.out HA.out (HBD.out i hi));go_wp2_with fail
   refine HT.out.mono ?_;rintro e w2 ⟨v,rfl,hb2,hv⟩;obtain ⟨pq,lq,cq,rfl⟩:=hv.slice;have oz:Hid (bZ w2 (aj pq lq cq) (a^(i+1))):=zh (by rw [cZ,aL];exact hv);have hz:=Bt hb hb2;clear hv hb2 HT HP;go_wp2_with fail
   go_roundw
   case rel=>exact ⟨i+1,by go_num,by omega,oz,hz⟩
   case measure=>exact zM
  ·obtain rfl:i=k:=by omega
   go_wp2_with fail
   go_ret
   exact ⟨_,rfl,Bt HB1.out hb,HP.out⟩
end Go.Proofs.whole
