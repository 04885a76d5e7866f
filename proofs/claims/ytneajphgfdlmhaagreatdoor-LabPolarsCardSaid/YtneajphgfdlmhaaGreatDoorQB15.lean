/- Lemmas for the proof. No condition. -/
import Derived.Test.YtneajphgfdlmhaaGreatDoorQB08
import Derived.Test.YtneajphgfdlmhaaGreatDoorQB14
set_option linter.unusedVariables false
set_option linter.unusedSimpArgs false
set_option maxRecDepth 100000
set_option maxHeartbeats 16000000
open Go.Ending renaming returned → aj
open Go.IntKind renaming i64 → I
open Go.Value renaming agg → au, bool → ak, int → Z, pointer → aB, slice → ah, string → O, tuple → aG
open List renaming getD_eq_getElem?_getD → bY, getElem?_append_right → dZ, getElem_mem → dY, replicate → bM, set_append_right → jc
open Nat renaming eq_zero_or_pos → aV, le_refl → aD, le_trans → ay, lt_or_ge → aO, mul_comm → aL, mul_le_mul → dP, mul_le_mul_left → aR, pow_add → fQ, pow_le_pow_right → bI, pow_succ → bN, zero_add → dK
namespace Go.Proofs.dH
open Go Go.RowKit Go.SW Go.Num Go.Mem Go.Proofs Go.Dec Go.gD
def XI (a b:Int × Int):(Int × Int) × Int:=if b.1≤0∧0≤b.2 then ((0,0),7) else rO (fun x y up=>nS x 1000000000000 y up) a b
def yA (a b:Int × Int):(Int × Int) × Int:=if okB [a,b] then XI a b else ((0,0),30)
def Zx (b:Int × Int) (n d:Int):(Int × Int) × Int:=if n< -1000000000000∨1000000000000<n∨d<1∨1000000000000<d then ((0,0),2) else rO (fun x y up=>nS x y d up) b (n,n)
def I5 (b:Int × Int) (n d:Int):(Int × Int) × Int:=if okB [b] then Zx b n d else ((0,0),30)
def XO (b:Int × Int) (lo hi:Int):(Int × Int) × Int:=if iG lo hi then gT (min (max b.1 lo) hi) (min (max b.2 lo) hi) else ((0,0),2)
def AJ (b:Int × Int) (lo hi:Int):(Int × Int) × Int:=if okB [b] then XO b lo hi else ((0,0),30)
def VI (n:Int):(Int × Int) × Int:=if iG n n then ((n,n),0) else ((0,0),30)
theorem LU {lo hi:Int} (h:iG lo hi=true):lo.natAbs≤1000000000000000000∧hi.natAbs≤1000000000000000000∧lo≤hi:=by
 obtain ⟨h1,h2,h3⟩: -1000000000000000000≤lo∧lo≤hi∧hi≤1000000000000000000:=by simpa [iG] using h
 exact ⟨by omega,by omega,h2⟩
theorem Ov {a:Int × Int} (h:iG a.1 a.2=true) (k:Nat):(VL a k).natAbs≤1000000000000000000:=by
 unfold VL;have:=LU h;split<;>omega
theorem WH {a:Int × Int} (h:iG a.1 a.2=true) (k:Nat):(RQ a k).natAbs≤1000000000000000000:=by
 unfold RQ;have:=LU h;split<;>omega
theorem Yv (x y:Int) (up:Bool) (hx:x.natAbs≤1000000000000000000) (hy:y≠0) (hy2:y.natAbs≤1000000000000000000) (w:World) :
  Calls Tryz.prog 161 #[Z I x,Z I y,ak up] w (fun e w'=>e= aj (aG #[Z I (nS x 1000000000000 y up).1,ak (nS x 1000000000000 y up).2])∧Below w.heap.size w w'):=by
 have H:=zh (fun W=>Jd x 1000000000000 y up hx zo hy hy2 W);generalize nS x 1000000000000 y up=z at *;obtain ⟨z1,z2⟩:=z;simp only at *;clear hx hy hy2;go_enter Tryz.func161,Tryz.ntmps161
 go_wp2_with fail
 refine (H.out _).mono ?_;rintro e w1 ⟨rfl,hb⟩;go_wp2_with fail
 go_ret2
 exact ⟨rfl,hb⟩
theorem Yw (x y z t:Int) (h0:okB [(x,y),(z,t)]=true) (b c:Nat) (w:World) (h:aA w b #[Z I x,Z I y] 40) (k:aA w c #[Z I z,Z I t] 40) :
  Calls Tryz.prog 160 #[aB (some ⟨c,0,none⟩),aB (some ⟨b,0,none⟩)] w (fun e w'=>e= aj (d9 (XI (x,y) (z,t)))∧Below w.heap.size w w'):=by
 have h0':iG x y=true∧iG z t=true:=by simpa [okB] using h0
 have ha:=Ov (a:=(x,y)) h0'.1;have hc:=WH (a:=(z,t)) h0'.2;obtain ⟨z1,z2,z3⟩:=LU h0'.2
 have H:Hid (¬ (z≤0∧0≤t)→∀ W,Calls Tryz.prog 100 #[au #[Z I x,Z I y],au #[Z I z,Z I t],.func (.func 161) #[] #[]] W (fun e w'=>e= aj (d9 (rO (fun x y up=>nS x 1000000000000 y up) (x,y) (z,t)))∧Below W.heap.size W w')):=zh fun hn W =>
  BG (fun x y up=>nS x 1000000000000 y up) 161 #[] x y z t W (fun k up W' _=>Yv _ _ up (ha k) (by unfold RQ;split<;>simp only<;>omega) (hc k) W') (fun args W=>by rfl)
 have e:XI (x,y) (z,t)=if z≤0∧0≤t then ((0,0),7) else rO (fun x y up=>nS x 1000000000000 y up) (x,y) (z,t):=rfl
 rw [e];generalize rO (fun x y up=>nS x 1000000000000 y up) (x,y) (z,t)=m at *;clear h0 h0' ha hc z1 z2 z3 e;obtain ⟨⟨m1,m2⟩,m3⟩:=m;have HX:=zh h;have HY:=zh k;clear h k
 by_cases hn:z≤0∧0≤t
 ·rw [if_pos hn];obtain ⟨g1,g2⟩:=hn;unfold d9 at *;simp only at *;clear H;obtain ⟨cx,lx,fx⟩:=HY.clf;go_enter Tryz.func160,Tryz.ntmps160
  go_wp2_with fail
  have hx:=aA.new w #[Z I 0,Z I 0] 40;refine bH rfl rfl bf Tryz.underlying40 rfl zk ?_;exact ⟨rfl,aF⟩
 ·rw [if_neg hn];replace H:=zh (H.out hn);unfold d9 at *;simp only at *
  have g:decide (z≤0)=false∨(decide (z≤0)=true∧decide (0≤t)=false):=by
   by_cases g1:z≤0
   ·exact .inr ⟨decide_eq_true g1,decide_eq_false (fun g2=>hn ⟨g1,g2⟩)⟩
   ·exact .inl (decide_eq_false g1)
  clear hn;obtain ⟨cx,lx,fx⟩:=HX.clf;obtain ⟨cy,ly,fy⟩:=HY.clf
  rcases g with g1|⟨g1,g2⟩
  all_goals
   simp only [decide_eq_false_iff_not,decide_eq_true_eq] at *;go_enter Tryz.func160,Tryz.ntmps160
   go_wp2_with fail
   refine (H.out _).mono ?_;rintro e w1 ⟨rfl,hb1⟩;have hx:=aA.later (aA.new w #[Z I 0,Z I 0] 40) hb1;have cr:=hx.cell;have fr:=hx.free;have lr:=hx.lt;have hw:=Bt (show Below w.heap.size w (w.alloc (.cells #[Z I 0,Z I 0] 40)) from aF) hb1;go_wp2_with fail
   refine bH rfl rfl bf Tryz.underlying40 rfl zk ?_;exact ⟨rfl,aF⟩
theorem sI (x y z t:Int) (w:World):Calls Tryz.prog 74 #[au #[Z I x,Z I y],au #[Z I z,Z I t]] w (fun e w'=>e= aj (d9 (yA (x,y) (z,t)))∧Below w.heap.size w w'):=by
 have H:Hid (∀ W b c d,aA W b #[Z I x,Z I y] 40→aA W c #[Z I z,Z I t] 40→aA W d #[Z I x,Z I y,Z I z,Z I t] 40→Calls Tryz.prog 97 #[.func (.func 160) #[] #[aB (some ⟨c,0,none⟩),aB (some ⟨b,0,none⟩)],ah (some ⟨d,0,none⟩) 2 2] W (fun e w'=>e= aj (d9 (yA (x,y) (z,t)))∧Below W.heap.size W w')):=zh fun W b c d h1 h2 h3 =>
  nK 160 #[aB (some ⟨c,0,none⟩),aB (some ⟨b,0,none⟩)] _ _ _ _ W (wY.two h3) (fun h W' hW'=>Yw x y z t h b c W' (h1.later hW') (h2.later hW')) (fun args W=>by rfl)
 generalize yA (x,y) (z,t)=m at *;obtain ⟨⟨m1,m2⟩,m3⟩:=m;unfold d9 at *;simp only at *;go_enter Tryz.func74,Tryz.ntmps74
 go_wp2_with fail
 obtain ⟨wx,EW,hz,X,Y,R,eZ⟩:=al4 w #[Z I x,Z I y] 40 #[Z I z,Z I t] 40 #[Z I 0,Z I 0] 40 #[Z I x,Z I y,Z I z,Z I t] 40;rw [EW];clear EW;have HB:=zh hz;clear hz;refine (H.out _ _ _ _ X.out Y.out eZ.out).mono ?_;rintro e w1 ⟨rfl,hb1⟩;replace R:=R.bl hb1;replace HB:=zh (Bt HB.out hb1);clear hb1 H;have hx:=R.out;have cx:=hx.cell;have fx:=hx.free;have lx:=hx.lt;have hw:=HB.out;go_wp2_with fail
 refine bH rfl rfl bf Tryz.underlying40 rfl zk ?_;exact ⟨rfl,aF⟩
theorem Rn (x y d:Int) (up:Bool) (hx:x.natAbs≤1000000000000000000) (hy:y.natAbs≤1000000000000000000) (hd:d≠0) (hd2:d.natAbs≤1000000000000000000) (c:Nat) (w:World) (h:aA w c #[Z I d] 3) :
  Calls Tryz.prog 204 #[Z I x,Z I y,ak up,aB (some ⟨c,0,none⟩)] w (fun e w'=>e= aj (aG #[Z I (nS x y d up).1,ak (nS x y d up).2])∧Below w.heap.size w w'):=by
 have H:=zh (fun W=>Jd x y d up hx hy hd hd2 W);generalize nS x y d up=z at *;obtain ⟨z1,z2⟩:=z;have cc:=h.cell;have lc:=h.lt;simp only at *;clear hx hy hd hd2 h;go_enter Tryz.func204,Tryz.ntmps204
 go_wp2_with fail
 refine (H.out _).mono ?_;rintro e w1 ⟨rfl,hb⟩;go_wp2_with fail
 go_ret2
 exact ⟨rfl,hb⟩
theorem Ro (x y n d:Int) (h0:okB [(x,y)]=true) (bn bd b:Nat) (w:World) (hn:aA w bn #[Z I n] 3) (hd:aA w bd #[Z I d] 3) (h:aA w b #[Z I x,Z I y] 40) :
  Calls Tryz.prog 203 #[aB (some ⟨bn,0,none⟩),aB (some ⟨bd,0,none⟩),aB (some ⟨b,0,none⟩)] w (fun e w'=>e= aj (d9 (Zx (x,y) n d))∧Below w.heap.size w w'):=by
 have h0':iG x y=true:=by simpa [okB] using h0
 have ha:=Ov (a:=(x,y)) h0'
 have H:Hid (¬ (n< -1000000000000∨1000000000000<n∨d<1∨1000000000000<d)→∀ W,Below w.heap.size w W→Calls Tryz.prog 100 #[au #[Z I x,Z I y],au #[Z I n,Z I n],.func (.func 204) #[] #[aB (some ⟨bd,0,none⟩)]] W (fun e w'=>e= aj (d9 (rO (fun x y up=>nS x y d up) (x,y) (n,n)))∧Below W.heap.size W w')):=zh fun hg W hW =>
  BG (fun x y up=>nS x y d up) 204 #[aB (some ⟨bd,0,none⟩)] x y n n W (fun k up W' hW'=>Rn _ _ d up (ha k) (by unfold RQ;split<;>simp only<;>omega) zo zo bd W' ((hd.later hW).later hW')) (fun args W=>by rfl)
 have e:Zx (x,y) n d=if n< -1000000000000∨1000000000000<n∨d<1∨1000000000000<d then ((0,0),2) else rO (fun x y up=>nS x y d up) (x,y) (n,n):=rfl
 rw [e];generalize rO (fun x y up=>nS x y d up) (x,y) (n,n)=m at *;obtain ⟨⟨m1,m2⟩,m3⟩:=m;have HX:=zh h;have HN:=zh hn;have HD:=zh hd;clear h0 h0' ha e h hn hd;obtain ⟨cn,ln,fn⟩:=HN.clf;obtain ⟨cd,ld,fd⟩:=HD.clf
 by_cases hg:n< -1000000000000∨1000000000000<n∨d<1∨1000000000000<d
 ·rw [if_pos hg];clear H;have g:n< -1000000000000∨(¬ n< -1000000000000∧1000000000000<n)∨(¬ n< -1000000000000∧¬ 1000000000000<n∧d<1)∨(¬ n< -1000000000000∧¬ 1000000000000<n∧¬ d<1∧1000000000000<d):=by omega
  clear hg;unfold d9;simp only
  rcases g with g1|⟨g1,g2⟩|⟨g1,g2,g3⟩|⟨g1,g2,g3,g4⟩
  all_goals
   go_enter Tryz.func203,Tryz.ntmps203
   go_wp2_with fail
   have hx:=aA.new w #[Z I 0,Z I 0] 40;refine bH rfl rfl bf Tryz.underlying40 rfl zk ?_;exact ⟨rfl,aF⟩
 ·rw [if_neg hg];replace H:=zh (H.out hg);have g1:¬ n< -1000000000000:=by omega
  have g2:¬ 1000000000000<n:=by omega
  have g3:¬ d<1:=by omega
  have g4:¬ 1000000000000<d:=by omega
  clear hg;unfold d9 at *;simp only at *;obtain ⟨cx,lx,fx⟩:=HX.clf;go_enter Tryz.func203,Tryz.ntmps203
  go_wp2_with fail
  refine (H.out _ aF).mono ?_;rintro e w1 ⟨rfl,hb1⟩;have hx:=aA.later (aA.new w #[Z I 0,Z I 0] 40) hb1;have cr:=hx.cell;have fr:=hx.free;have lr:=hx.lt;have hw:=Bt (show Below w.heap.size w (w.alloc (.cells #[Z I 0,Z I 0] 40)) from aF) hb1;go_wp2_with fail
  refine bH rfl rfl bf Tryz.underlying40 rfl zk ?_;exact ⟨rfl,aF⟩
theorem RO (x y lo hi:Int) (h0:okB [(x,y)]=true) (bn bd b:Nat) (w:World) (hn:aA w bn #[Z I lo] 3) (hd:aA w bd #[Z I hi] 3) (h:aA w b #[Z I x,Z I y] 40) :
  Calls Tryz.prog 159 #[aB (some ⟨bn,0,none⟩),aB (some ⟨bd,0,none⟩),aB (some ⟨b,0,none⟩)] w (fun e w'=>e= aj (d9 (XO (x,y) lo hi))∧Below w.heap.size w w'):=by
 have HV:=zh (fun W=>nO lo hi W);have HM:=zh (fun W=>jK (min (max x lo) hi) (min (max y lo) hi) W);have e:XO (x,y) lo hi=if iG lo hi then gT (min (max x lo) hi) (min (max y lo) hi) else ((0,0),2):=rfl
 rw [e];generalize gT (min (max x lo) hi) (min (max y lo) hi)=m at *;generalize iG lo hi=v at *;obtain ⟨⟨m1,m2⟩,m3⟩:=m;have HX:=zh h;have HN:=zh hn;have HD:=zh hd;clear h0 e h hn hd;unfold d9 at *;simp only at *;cases v
 ·obtain ⟨cn,ln,fn⟩:=HN.clf;obtain ⟨cd,ld,fd⟩:=HD.clf;go_enter Tryz.func159,Tryz.ntmps159
  go_wp2_with fail
  refine (HV.out _).mono ?_;rintro e w1 ⟨rfl,hb1⟩;have hx:=aA.later (aA.new w #[Z I 0,Z I 0] 40) hb1;have cr:=hx.cell;have fr:=hx.free;have lr:=hx.lt;have hw:=Bt (show Below w.heap.size w (w.alloc (.cells #[Z I 0,Z I 0] 40)) from aF) hb1;go_wp2_with fail
  refine bH rfl rfl bf Tryz.underlying40 rfl zk ?_;exact ⟨rfl,aF⟩
 ·obtain ⟨cn,ln,fn⟩:=HN.clf;obtain ⟨cd,ld,fd⟩:=HD.clf;go_enter Tryz.func159,Tryz.ntmps159
  go_wp2_with fail
  refine (HV.out _).mono ?_;rintro e w1 ⟨rfl,hb1⟩;have hw:=Bt (show Below w.heap.size w (w.alloc (.cells #[Z I 0,Z I 0] 40)) from aF) hb1;have hx:=aA.later (aA.new w #[Z I 0,Z I 0] 40) hb1;clear cn ln fn cd ld fd;obtain ⟨cn,ln,fn⟩:=(HN.bl hw).clf;obtain ⟨cd,ld,fd⟩:=(HD.bl hw).clf;obtain ⟨cx,lx,fx⟩:=(HX.bl hw).clf;go_wp2_with fail
  refine (HM.out _).mono ?_;rintro e w2 ⟨rfl,hb2⟩;replace hx:=hx.later hb2;replace hw:=Bt hw hb2;have cr:=hx.cell;have fr:=hx.free;have lr:=hx.lt;clear cn ln fn cd ld fd cx lx fx hb1 hb2;go_wp2_with fail
  refine bH rfl rfl bf Tryz.underlying40 rfl zk ?_;exact ⟨rfl,aF⟩
theorem Vm (x y n d:Int) (w:World):Calls Tryz.prog 130 #[au #[Z I x,Z I y],Z I n,Z I d] w (fun e w'=>e= aj (d9 (I5 (x,y) n d))∧Below w.heap.size w w'):=by
 have H:Hid (∀ W bn bd b c,aA W bn #[Z I n] 3→aA W bd #[Z I d] 3→aA W b #[Z I x,Z I y] 40→aA W c #[Z I x,Z I y] 40→Calls Tryz.prog 97 #[.func (.func 203) #[] #[aB (some ⟨bn,0,none⟩),aB (some ⟨bd,0,none⟩),aB (some ⟨b,0,none⟩)],ah (some ⟨c,0,none⟩) 1 1] W (fun e w'=>e= aj (d9 (I5 (x,y) n d))∧Below W.heap.size W w')):=zh fun W bn bd b c h1 h2 h3 h4 =>
  nK 203 #[aB (some ⟨bn,0,none⟩),aB (some ⟨bd,0,none⟩),aB (some ⟨b,0,none⟩)] _ _ _ _ W (wY.one h4) (fun h W' hW'=>Ro x y n d h bn bd b W' (h1.later hW') (h2.later hW') (h3.later hW')) (fun args W=>by rfl)
 generalize I5 (x,y) n d=z at *;obtain ⟨⟨z1,z2⟩,z3⟩:=z;unfold d9 at *;simp only at *;go_enter Tryz.func130,Tryz.ntmps130
 go_wp2_with fail
 obtain ⟨wx,EW,hz,X,N,D,R,eZ⟩:=ag3 w #[Z I x,Z I y] 40 #[Z I n] 3 #[Z I d] 3 #[Z I 0,Z I 0] 40 #[Z I x,Z I y] 40;rw [EW];clear EW;have HB:=zh hz;clear hz;refine (H.out _ _ _ _ _ N.out D.out X.out eZ.out).mono ?_;rintro e w1 ⟨rfl,hb1⟩;replace R:=R.bl hb1;replace HB:=zh (Bt HB.out hb1);clear hb1 H;have hx:=R.out;have cx:=hx.cell;have fx:=hx.free;have lx:=hx.lt;have hw:=HB.out;go_wp2_with fail
 refine bH rfl rfl bf Tryz.underlying40 rfl zk ?_;exact ⟨rfl,aF⟩
theorem yO (x y n d:Int) (w:World):Calls Tryz.prog 73 #[au #[Z I x,Z I y],Z I n,Z I d] w (fun e w'=>e= aj (d9 (AJ (x,y) n d))∧Below w.heap.size w w'):=by
 have H:Hid (∀ W bn bd b c,aA W bn #[Z I n] 3→aA W bd #[Z I d] 3→aA W b #[Z I x,Z I y] 40→aA W c #[Z I x,Z I y] 40→Calls Tryz.prog 97 #[.func (.func 159) #[] #[aB (some ⟨bn,0,none⟩),aB (some ⟨bd,0,none⟩),aB (some ⟨b,0,none⟩)],ah (some ⟨c,0,none⟩) 1 1] W (fun e w'=>e= aj (d9 (AJ (x,y) n d))∧Below W.heap.size W w')):=zh fun W bn bd b c h1 h2 h3 h4 =>
  nK 159 #[aB (some ⟨bn,0,none⟩),aB (some ⟨bd,0,none⟩),aB (some ⟨b,0,none⟩)] _ _ _ _ W (wY.one h4) (fun h W' hW'=>RO x y n d h bn bd b W' (h1.later hW') (h2.later hW') (h3.later hW')) (fun args W=>by rfl)
 generalize AJ (x,y) n d=z at *;obtain ⟨⟨z1,z2⟩,z3⟩:=z;unfold d9 at *;simp only at *;go_enter Tryz.func73,Tryz.ntmps73
 go_wp2_with fail
 obtain ⟨wx,EW,hz,X,N,D,R,eZ⟩:=ag3 w #[Z I x,Z I y] 40 #[Z I n] 3 #[Z I d] 3 #[Z I 0,Z I 0] 40 #[Z I x,Z I y] 40;rw [EW];clear EW;have HB:=zh hz;clear hz;refine (H.out _ _ _ _ _ N.out D.out X.out eZ.out).mono ?_;rintro e w1 ⟨rfl,hb1⟩;replace R:=R.bl hb1;replace HB:=zh (Bt HB.out hb1);clear hb1 H;have hx:=R.out;have cx:=hx.cell;have fx:=hx.free;have lx:=hx.lt;have hw:=HB.out;go_wp2_with fail
 refine bH rfl rfl bf Tryz.underlying40 rfl zk ?_;exact ⟨rfl,aF⟩
theorem Vq (n:Int) (w:World):Calls Tryz.prog 131 #[Z I n] w (fun e w'=>e= aj (d9 (VI n))∧Below w.heap.size w w'):=by
 have H:Hid (∀ W,Calls Tryz.prog 183 #[Z I n,Z I n] W (fun e w'=>e= aj (d9 (VI n))∧Below W.heap.size W w')):=zh fun W=>by
  have h:=oC n n W;unfold VI d9
  revert h
  cases iG n n<;>exact fun h=>h
 generalize VI n=z at *;obtain ⟨⟨z1,z2⟩,z3⟩:=z;unfold d9 at *;simp only at *;go_enter Tryz.func131,Tryz.ntmps131
 go_wp2_with fail
 obtain ⟨wx,EW,hz,R⟩:=wR w #[Z I 0,Z I 0] 40;rw [EW];clear EW;have HB:=zh hz;clear hz;refine (H.out _).mono ?_;rintro e w1 ⟨rfl,hb1⟩;replace R:=R.bl hb1;replace HB:=zh (Bt HB.out hb1);clear hb1 H;have hx:=R.out;have cx:=hx.cell;have fx:=hx.free;have lx:=hx.lt;have hw:=HB.out;go_wp2_with fail
 refine bH rfl rfl bf Tryz.underlying40 rfl zk ?_;exact ⟨rfl,aF⟩
end Go.Proofs.dH
namespace Go.Proofs.whole
open Go Go.RowKit Go.SW Go.Num Go.Mem Go.Proofs Go.Dec
theorem xK (z:Int) (hz:(Lib.decDigits z.natAbs).length≤600) (w:World) :
  Calls Tryz.prog 254 #[dW z] w (fun e w'=>∃ v,e= aj (aG #[v,ak true])∧Below w.heap.size w w'∧fD w' v z):=by
 have HC:=zh (r9 ⟨(Lib.itoa z).toArray⟩);have e1:(⟨(Lib.itoa z).toArray⟩:ByteArray).data.toList=Lib.itoa z:=rfl;rw [e1,J4] at HC;have hd:=mY z.natAbs;have hn:=nM z.natAbs;have hl:=uE z.natAbs;have hh:(Lib.decDigits z.natAbs).head? =some 48→z=0:=fun h=>Int.natAbs_eq_zero.1 (uF h);have hz1:z=0→(Lib.decDigits z.natAbs).length≤1:=fun h=>by rw [h];decide+kernel
 unfold dW;generalize (Lib.itoa z).toArray=txt at *;generalize Lib.decDigits z.natAbs=d at *;have hsz:(⟨d.toArray⟩:ByteArray).size=d.length:=rfl;have g0:((d.length:Int) == 0)=false:=beq_eq_false_iff_ne.2 zo;have g1:decide ((600:Int)<(d.length:Int))=false:=by simp;omega
 have g2:¬ d=[]:=fun h=>by rw [h] at hl;simp at hl
 have hbx:aA (w.alloc (.cells #[ah none 0 0,ak false] 257 (0,0))) w.heap.size #[ah none 0 0,ak false] 257:=aA.new _ _ _;have hbl:Below w.heap.size w (w.alloc (.cells #[ah none 0 0,ak false] 257 (0,0))):=(Below.refl _ _).alloc (aD _) _;have rC:=zh hbx;have HD:=zh hd;have HN:=zh hn;have HH:=zh hh;have HZ:=zh hz1;clear hbx hd hn hh hz1 e1;go_enter Tryz.func254,Tryz.ntmps254
 go_wp2_with (go_at_call 273;refine (HC.out _).mono ?_;rintro e w1 ⟨rfl,rfl⟩)
 go_loopw [23] (fun v wr=>∃ i:Nat,v= Z I (i:Int)∧i≤d.length∧w.alloc (.cells #[ah none 0 0,ak false] 257 (0,0))=wr) (fun v _=>d.length - (intOf v).toNat)
 case atStart=>exact ⟨0,rfl,by omega,rfl⟩
 case round =>
  obtain ⟨i,rfl,hi,rfl⟩:=hrel
  rcases aO i d.length with hlt|hge
  ·have hgt:(⟨d.toArray⟩:ByteArray)[i]'(by exact hlt)=d[i]:=rfl;have hdig:=HD.out d[i] (dY hlt);have q1:decide (((⟨d.toArray⟩:ByteArray)[i]'(by exact hlt)).toNat<(48:Int))=false:=by rw [hgt];simp;omega
   have q2:decide ((57:Int)<((⟨d.toArray⟩:ByteArray)[i]'(by exact hlt)).toNat)=false:=by rw [hgt];simp;omega
   clear hgt hdig;go_wp2_with fail
   exact ⟨⟨i+1,rfl,by omega,trivial⟩,by simp only [intOf];omega⟩
  ·obtain rfl:i=d.length:=by omega
   have hgt:(⟨d.toArray⟩:ByteArray)[0]'(by exact hl)=d[0]:=rfl;have HG:=zh (uV ⟨d.toArray⟩ (by rw [hsz];omega) HD.out (w.alloc (.cells #[ah none 0 0,ak false] 257 (0,0))));have e2:num (⟨d.toArray⟩:ByteArray).data.toList=z.natAbs:=HN.out;rw [e2] at HG;have hx:d[0].toNat=48→z=0:=fun h=>HH.out (by rw [List.head?_eq_getElem?, List.getElem?_eq_getElem hl];exact congrArg some (UInt8.toNat_inj.mp h));cases hq:decide (d[0].toNat=48) with
   | true =>
    have h0:=hx (of_decide_eq_true hq);have h1:=HZ.out h0;have q1:decide ((1:Int)<(d.length:Int))=false:=by simp;omega
    have q2:decide (z<0)=false:=by simp;omega
    have q0:((((⟨d.toArray⟩:ByteArray)[0]'(by exact hl)).toNat:Int) == 48)=true:=by rw [hgt];simp at hq ⊢;omega
    clear hgt hx hq e2 hge hi h0;go_wp2_with (go_at_call 292;refine (HG.out).mono ?_;rintro e w2 ⟨v,rfl,hb2,hv⟩;have HV:=zh hv;obtain ⟨pa,ca,rfl, -⟩:=hv;have yh:=rC.out.later hb2;have cb:=yh.cell;have fb:=yh.free)
    refine bH rfl rfl (((rC.out.later hb2).set 0 _).set 1 _) Tryz.underlying257 rfl zk ?_;refine ⟨_,rfl,((Bt hbl hb2).setCell (aD _) _).setCell (aD _) _,pa,_,ca,?_,(HV.out.setOther yh zd 0 _).setOther (yh.set 0 _) zd 1 _⟩;rw [q2];rfl
   | false =>
    have q0:((((⟨d.toArray⟩:ByteArray)[0]'(by exact hl)).toNat:Int) == 48)=false:=by rw [hgt];simp at hq ⊢;omega
    clear hgt hx hq e2 hge hi;go_wp2_with (go_at_call 292;refine (HG.out).mono ?_;rintro e w2 ⟨v,rfl,hb2,hv⟩;have HV:=zh hv;obtain ⟨pa,ca,rfl, -⟩:=hv;have yh:=rC.out.later hb2;have cb:=yh.cell;have fb:=yh.free)
    refine bH rfl rfl (((rC.out.later hb2).set 0 _).set 1 _) Tryz.underlying257 rfl zk ?_;exact ⟨_,rfl,((Bt hbl hb2).setCell (aD _) _).setCell (aD _) _,pa,_,ca,rfl,(HV.out.setOther yh zd 0 _).setOther (yh.set 0 _) zd 1 _⟩
end Go.Proofs.whole
namespace Go.Proofs.whole
open Go Go.RowKit Go.SW Go.Num Go.Mem Go.Proofs
theorem iK (v:Value) (n:Nat) (w:World) (h:bW w v n) :
  Calls Tryz.prog 295 #[v] w fun e w'=>e= aj (ak (decide (n=0)))∧w=w':=zs4
def vZ (a b:Nat):Int:=if a<b then -1 else if b<a then 1 else 0
theorem qx {a b:Nat} (h:a<b):vZ a b= -1:=if_pos h
theorem oW {a b:Nat} (h:b<a):vZ a b=1:=by unfold vZ;rw [if_neg zo,if_pos h]
theorem rQ (a:Nat):vZ a a=0:=by unfold vZ;simp
theorem O8 (a b:Nat) (w:World):Calls Tryz.prog 275 #[Z I a,Z I b] w fun e w'=>e= aj (Z I (vZ a b))∧w=w':=zs5
theorem O6 (a b:Nat) (w:World):Calls Tryz.prog 276 #[Z .u32 a,Z .u32 b] w fun e w'=>e= aj (Z I (vZ a b))∧w=w':=zs6
theorem Aj (a b:Option Addr) (m n c d:Nat) (w:World) (h:m≠n) :
  Calls Tryz.prog 317 #[ah a m c,ah b n d] w fun e w'=>e= aj (Z I (vZ m n))∧w=w':=zs7
theorem yD (pa pb:Option Addr) (ca cb:Nat) (l m:List Nat) (w:World) (hlen:l.length=m.length) (hm:l.length≤9223372036854775807) (hl:fZ 1000000000 l) (hmd:fZ 1000000000 m)
   (hc:∀ k,k<l.length→∃ b off,pa=some ⟨b,off,none⟩∧b<w.heap.size∧w.cell? ⟨b,off+k,none⟩=some (.int .u32 (l.getD k 0:Nat)))
   (hd:∀ k,k<m.length→∃ b off,pb=some ⟨b,off,none⟩∧b<w.heap.size∧w.cell? ⟨b,off+k,none⟩=some (.int .u32 (m.getD k 0:Nat))) :
    Calls Tryz.prog 317 #[ah pa l.length ca,ah pb m.length cb] w fun e w'=>e= aj (Z I (vZ (val 1000000000 l) (val 1000000000 m)))∧Below w.heap.size w w':=zs8
theorem jM (x y:Value) (a b:Nat) (w:World) (hx:bW w x a) (hy:bW w y b) :
  Calls Tryz.prog 317 #[x,y] w fun e w'=>e= aj (Z I (vZ a b))∧Below w.heap.size w w':=zs9
theorem Ab:(Tryz.prog.info? 61).map (fun i=>(i.zero,i.size,i.bytes))=some (some (.int .u32 0),1,4):=by kernel_rfl
theorem yU {B:Nat} {l m s:List Nat} {k c d c':Nat} (hk:k<l.length) (hs:s.length=k) (he:val B s+c*B^k=val B (l.take k)+val B (m.take k)) (h:d+c'*B=l.getD k 0+c+m.getD k 0) :
  val B (s++[d])+c'*B^(k+1)=val B (l.take (k+1))+val B (m.take (k+1)):=aj4
theorem yT (pl ps:Option Addr) (cl cs:Nat) (l m:List Nat) (v0 v1:Value) (w:World) (hl:fZ 1000000000 l) (hmd:fZ 1000000000 m) (hb1:l.length≤1099511627776) (hml:m.length≤l.length)
   (hv:(v0= ah pl l.length cl∧v1= ah ps m.length cs)∨(v1= ah pl l.length cl∧v0= ah ps m.length cs∧m.length<l.length))
   (hc:∀ k,k<l.length→∃ b off,pl=some ⟨b,off,none⟩∧b<w.heap.size∧w.cell? ⟨b,off+k,none⟩=some (.int .u32 (l.getD k 0:Nat)))
   (hd:∀ k,k<m.length→∃ b off,ps=some ⟨b,off,none⟩∧b<w.heap.size∧w.cell? ⟨b,off+k,none⟩=some (.int .u32 (m.getD k 0:Nat))) :
    Calls Tryz.prog 315 #[v0,v1] w fun e w'=>∃ s v,e= aj v∧Below w.heap.size w w'∧nC w' v s∧fZ 1000000000 s∧val 1000000000 s=val 1000000000 l+val 1000000000 m∧l.length≤s.length∧(l.length<s.length→Top s):=aj3
theorem AZ (x y:Value) (a b:Nat) (w:World) (hx:bW w x a) (hy:bW w y b) (ha:sz 1000000000 a≤1099511627776) (hb:sz 1000000000 b≤1099511627776) :
  Calls Tryz.prog 315 #[x,y] w fun e w'=>∃ v,e= aj v∧Below w.heap.size w w'∧bW w' v (a+b):=zs12
theorem Ci (pl ps:Option Addr) (cl cs:Nat) (l m:List Nat) (w:World) (hl:fZ 1000000000 l) (hmd:fZ 1000000000 m) (hb1:l.length≤1099511627776) (hml:m.length≤l.length) (hle:val 1000000000 m≤val 1000000000 l)
   (hc:∀ k,k<l.length→∃ b off,pl=some ⟨b,off,none⟩∧b<w.heap.size∧w.cell? ⟨b,off+k,none⟩=some (.int .u32 (l.getD k 0:Nat)))
   (hd:∀ k,k<m.length→∃ b off,ps=some ⟨b,off,none⟩∧b<w.heap.size∧w.cell? ⟨b,off+k,none⟩=some (.int .u32 (m.getD k 0:Nat))) :
    Calls Tryz.prog 326 #[ah pl l.length cl,ah ps m.length cs] w fun e w'=>∃ v,e= aj v∧Below w.heap.size w w'∧bW w' v (val 1000000000 l - val 1000000000 m):=aj2
theorem Ck (x y:Value) (a b:Nat) (w:World) (hx:bW w x a) (hy:bW w y b) (ha:sz 1000000000 a≤1099511627776) (hle:b≤a) :
  Calls Tryz.prog 326 #[x,y] w fun e w'=>∃ v,e= aj v∧Below w.heap.size w w'∧bW w' v (a - b):=aj1
theorem Ou {x y:Nat} (hx:x<1000000000) (hy:y<1000000000):(0:Int)≤(x:Int)*(y:Int)∧(x:Int)*(y:Int)≤999999998000000001:=by
 have h:x*y≤999999999*999999999:=dP zo zo;rw [← Int.natCast_mul];omega
theorem Bz (pl ps:Option Addr) (cl cs:Nat) (l m:List Nat) (w:World) (hl:fZ 1000000000 l) (hmd:fZ 1000000000 m) (hb1:l.length≤1099511627776) (hb2:m.length≤1099511627776)
   (hc:∀ k,k<l.length→∃ b off,pl=some ⟨b,off,none⟩∧b<w.heap.size∧w.cell? ⟨b,off+k,none⟩=some (.int .u32 (l.getD k 0:Nat)))
   (hd:∀ k,k<m.length→∃ b off,ps=some ⟨b,off,none⟩∧b<w.heap.size∧w.cell? ⟨b,off+k,none⟩=some (.int .u32 (m.getD k 0:Nat))) :
    Calls Tryz.prog 296 #[ah pl l.length cl,ah ps m.length cs] w fun e w'=>∃ v,e= aj v∧Below w.heap.size w w'∧bW w' v (val 1000000000 l*val 1000000000 m):=aj0
theorem jQ (x y:Value) (a b:Nat) (w:World) (hx:bW w x a) (hy:bW w y b) (ha:sz 1000000000 a≤1099511627776) (hb:sz 1000000000 b≤1099511627776) :
  Calls Tryz.prog 296 #[x,y] w fun e w'=>∃ v,e= aj v∧Below w.heap.size w w'∧bW w' v (a*b):=ai9
theorem vY (pl:Option Addr) (cl:Nat) (l:List Nat) (d:Nat) (w:World) (hl:fZ 1000000000 l) (hb1:l.length≤1099511627776) (hd0:0<d) (hd1:d≤1000000000)
   (hc:∀ k,k<l.length→∃ b off,pl=some ⟨b,off,none⟩∧b<w.heap.size∧w.cell? ⟨b,off+k,none⟩=some (.int .u32 (l.getD k 0:Nat))) :
    Calls Tryz.prog 316 #[ah pl l.length cl,Z .u32 d] w fun e w'=>∃ v,e= aj (aG #[v,Z .u32 (val 1000000000 l%d:Nat)])∧Below w.heap.size w w'∧bW w' v (val 1000000000 l / d):=ai8
theorem xD (x:Value) (a d:Nat) (w:World) (hx:bW w x a) (ha:sz 1000000000 a≤1099511627776) (hd0:0<d) (hd1:d≤1000000000) :
  Calls Tryz.prog 316 #[x,Z .u32 d] w fun e w'=>∃ v,e= aj (aG #[v,Z .u32 (a%d:Nat)])∧Below w.heap.size w w'∧bW w' v (a / d):=by
 obtain ⟨pa,ca,rfl,h1,h2,h3⟩:=nC.read hx.Da;have:=vY pa ca _ d w (cZ zo a) ha hd0 hd1 h3
 rwa [bQ zo] at this
theorem mW (a:Nat) (w:World) (ha:a≤18446744073709551615) :
  Calls Tryz.prog 314 #[Z .u64 a] w fun e w'=>∃ v,e= aj v∧Below w.heap.size w w'∧bW w' v a:=ai7
def yK (w:World) (g k:Nat) (pre u post v:List Nat) (e:Ending) (w':World):Prop :=
 e= aj (Z .u32 (val 1000000000 u / val 1000000000 v:Nat))∧w.grownBy w' (some g) ∧
   ∃ s,aA w' g (eH (pre++(s++[0])++post)).toArray 61∧s.length=k+2∧fZ 1000000000 s∧val 1000000000 s=val 1000000000 u%val 1000000000 v
theorem zX (g j k cu:Nat) (pv:Option Addr) (cv:Nat) (pre u post v:List Nat) (w:World) (hj:pre.length=j) (hu:u.length=k+3) (hv:v.length=k+2) (du:fZ 1000000000 u) (dv:fZ 1000000000 v) (hk:k≤1099511627776)
  (ht:1000000000≤2*v.getD (k+1) 0) (hlt:val 1000000000 u<val 1000000000 v*1000000000) (ab8:aA w g (eH (pre++u++post)).toArray 61)
  (hd:∀ i,i<k+2→∃ b off,pv=some ⟨b,off,none⟩∧b≠g∧b<w.heap.size∧w.cell? ⟨b,off+i,none⟩=some (.int .u32 (v.getD i 0:Nat))) :
  Calls Tryz.prog 333 #[ah (some ⟨g,j,none⟩) (k+3) cu,ah pv (k+2) cv] w (yK w g k pre u post v):=ai6
def nN (w:World) (q r:Nat) (e:Ending) (w':World):Prop:=∃ vq vr,e= aj (aG #[vq,vr])∧Below w.heap.size w w'∧bW w' vq q∧bW w' vr r
theorem Ah (x y:Value) (a b:Nat) (w:World) (hx:bW w x a) (hy:bW w y b) (h:a<b) :
  Calls Tryz.prog 313 #[x,y] w (nN w (a / b) (a%b)):=ai5
theorem yx (pa pb:Option Addr) (ca cb:Nat) (a b:Nat) (w:World) (hx:bW w (ah pa (sz 1000000000 a) ca) a) (hy:bW w (ah pb 1 cb) b) (hb0:0<b) (hb1:b<1000000000) (h:b≤a) (ha:sz 1000000000 a≤549755813888) :
  Calls Tryz.prog 313 #[ah pa (sz 1000000000 a) ca,ah pb 1 cb] w (nN w (a / b) (a%b)):=ai4
theorem Ag (pa pb:Option Addr) (ca cb:Nat) (a b k:Nat) (w:World) (hx:bW w (ah pa (sz 1000000000 a) ca) a) (hy:bW w (ah pb (k+2) cb) b) (hsb:sz 1000000000 b=k+2) (h:b≤a) (ha:sz 1000000000 a≤549755813888) :
  Calls Tryz.prog 313 #[ah pa (sz 1000000000 a) ca,ah pb (k+2) cb] w (nN w (a / b) (a%b)):=ai3
theorem iw (x y:Value) (a b:Nat) (w:World) (hx:bW w x a) (hy:bW w y b) (hb:0<b) (ha:sz 1000000000 a≤549755813888) :
  Calls Tryz.prog 313 #[x,y] w (nN w (a / b) (a%b)):=ai2
end Go.Proofs.whole
namespace Go.Proofs.whole
open Go Go.RowKit Go.SW Go.Num Go.Mem Go.Proofs Go.Proofs.jH Go.Dec
theorem LA (B b d wd:Nat) (l:List UInt8) (w:World) (h:Rv B b (Lib.byteCells l) w) (hB:B≤w.heap.size) (hw:wd≤9) (hd:d<1000000000) (hl:l.length≤140737488355000) (ht:Pow w) :
  Calls Tryz.prog 328 #[Z .u32 d,Z I wd,aB (some ⟨b,0,none⟩)] w fun e w'=>e= aj (aG #[])∧Rv B b (Lib.byteCells (l++(bM (wd - (Lib.decDigits d).length) 48++Lib.decDigits d))) w'∧Below B w w':=ai1
def Dn (w:World) (n:Nat) (e:Ending) (w':World):Prop:=e= aj (O ⟨(Lib.decDigits n).toArray⟩)∧Below w.heap.size w w'
theorem qX (x:Value) (a:Nat) (w:World) (hx:bW w x a) (ha:sz 1000000000 a≤1099511627776) (ht:Pow w) :
  Calls Tryz.prog 294 #[x] w (Dn w a):=ai0
theorem mo (x:Value) (a:Nat) (w:World) (hx:bW w x a) (ha:sz 1000000000 a≤1099511627776) (ht:Pow w) :
  Calls Tryz.prog 293 #[x] w (fun e w'=>e= aj (Z I ((Lib.decDigits a).length:Nat))∧Below w.heap.size w w'):=ah9
end Go.Proofs.whole
namespace Go.Proofs.whole
open Go Go.RowKit Go.SW Go.Num Go.Mem Go.Proofs
theorem bW.inj {w:World} {v:Value} {m n:Nat} (h:bW w v m) (k:bW w v n):m=n:=ah8
open Classical in
noncomputable def Cn (w:World) (v:Value):Nat:=if h:∃ n,bW w v n then h.choose else 0
theorem tZ {w:World} {v:Value} {n:Nat} (h:bW w v n):Cn w v=n:=by
 unfold Cn;rw [dif_pos ⟨n,h⟩];exact bW.inj (Exists.choose_spec (⟨n,h⟩:∃ n,bW w v n)) h
end Go.Proofs.whole
namespace Go.Proofs.whole
open Go Go.RowKit Go.SW Go.Num Go.Mem Go.Proofs Go.Dec
theorem fO (m:Value) (n:Nat) (b:Bool) (w:World) (h:bW w m n) :
  Calls Tryz.prog 256 #[m,ak b] w (fun e w'=>∃ v,e= aj v∧Below w.heap.size w w'∧fD w' v (iV n b)):=ah7
theorem IU (pa pb:Option Addr) (l m ca cb:Nat) (z y:Int) (b:Bool) (w:World) (h:bW w (ah pa l ca) z.natAbs) (h2:bW w (ah pb m cb) y.natAbs) (hz:decide (z<0)=b) (hy:decide (y<0)=b) (kz:sz 1000000000 z.natAbs≤549755813888) (ky:sz 1000000000 y.natAbs≤549755813888) :
  Calls Tryz.prog 308 #[au #[ah pa l ca,ak b],au #[ah pb m cb,ak b]] w (fun e w'=>∃ v,e= aj v∧Below w.heap.size w w'∧fD w' v (z+y)):=ah6
theorem IV (pa pb:Option Addr) (l m ca cb:Nat) (z y:Int) (b:Bool) (w:World) (h:bW w (ah pa l ca) z.natAbs) (h2:bW w (ah pb m cb) y.natAbs) (hz:decide (z<0)=b) (hy:decide (y<0)= !b) (kz:sz 1000000000 z.natAbs≤549755813888) (ky:sz 1000000000 y.natAbs≤549755813888) :
  Calls Tryz.prog 308 #[au #[ah pa l ca,ak b],au #[ah pb m cb,ak !b]] w (fun e w'=>∃ v,e= aj v∧Below w.heap.size w w'∧fD w' v (z+y)):=ah5
theorem vV (v u:Value) (z y:Int) (w:World) (h:fD w v z) (h2:fD w u y) (kz:sz 1000000000 z.natAbs≤549755813888) (ky:sz 1000000000 y.natAbs≤549755813888) :
  Calls Tryz.prog 308 #[v,u] w (fun e w'=>∃ v,e= aj v∧Below w.heap.size w w'∧fD w' v (z+y)):=ah4
end Go.Proofs.whole
namespace Go.Proofs.whole
open Go Go.RowKit Go.SW Go.Num Go.Mem Go.Proofs
theorem Jf (x:Value) (a k:Nat) (w:World) (hx:bW w x a) (hk:k≤9223372036854775807) (hb:∀ i,i≤k→sz 1000000000 (a^i)≤1099511627776) (ha:sz 1000000000 a≤1099511627776) :
  Calls Tryz.prog 257 #[x,Z I (k:Int)] w (fun e w'=>∃ v,e= aj v∧Below w.heap.size w w'∧bW w' v (a^k)):=by
 have hmf:∀ (fn:Fn) (first cap:Array Value) (w:World),(Instr.makeFunc fn first cap).run Tryz.prog w= .ok (.func fn first cap) w:=fun _ _ _ _=>rfl;obtain ⟨pa,l,ca,rfl⟩:=hx.slice;have HX:=zh hx;have HBD:=zh hb;have HA:=zh ha;clear hx hb ha;go_enter Tryz.func257,Tryz.ntmps257
 go_wp2_with fail
 have hb1:Below w.heap.size w (w.alloc (.cells #[Z .u32 1] 61)):=aF;have h1:Hid (bW (w.alloc (.cells #[Z .u32 1] 61)) (ah (some ⟨w.heap.size,0,none⟩) 1 1) 1):=zh (by have:=bW.lit (w:=w) (d:=1) zo zo;simpa using this);obtain ⟨w1,EW⟩:∃ y,w.alloc (.cells #[Z .u32 1] 61)=y:=⟨_,rfl⟩;rw [EW] at hb1 h1 ⊢;have HB1:=zh hb1;clear EW hb1
 go_loopw [5,11] (fun pv iv wr=>∃ i:Nat,iv= Z I (i:Int)∧i≤k∧Hid (bW wr pv (a^i))∧Below w1.heap.size w1 wr) (fun _ iv _=>k - (intOf iv).toNat)
 case atStart=>exact ⟨0,rfl,by omega,zh (by rw [Nat.pow_zero];exact h1.out),Below.refl _ _⟩
 case round =>
  obtain ⟨i,rfl,hi,HP,hb⟩:=hrel;obtain ⟨pp,lp,cp,rfl⟩:=HP.out.slice
  rcases aO i k with hlt|hge
  ·have HT:=zh (jQ _ _ a (a^i) wr (HX.out.later (Bt HB1.out hb)) HP.out HA.out (HBD.out i hi));go_wp2_with fail
   refine HT.out.mono ?_;rintro e w2 ⟨v,rfl,hb2,hv⟩;obtain ⟨pq,lq,cq,rfl⟩:=hv.slice;have nu:Hid (bW w2 (ah pq lq cq) (a^(i+1))):=zh (by rw [bN,aL];exact hv);have hz:=Bt hb hb2;clear hv hb2 HT HP;go_wp2_with fail
   go_roundw
   case rel=>exact ⟨i+1,by go_num,by omega,nu,hz⟩
   case measure=>exact zM
  ·obtain rfl:i=k:=by omega
   go_wp2_with fail
   go_ret
   exact ⟨_,rfl,Bt HB1.out hb,HP.out⟩
theorem Sr (k d:Nat):(bM (k+1) 0).set k d=bM k 0++[d]:=by
 rw [List.replicate_succ'];rw [jc _ _ zi];simp
theorem Wm {w:World} {v:Value} {k d:Nat} (h:nC w v ((bM (k+1) 0).set k d)) (h0:0<d) (h1:d<1000000000):bW w v (1000000000^k*d):=by
 rw [Sr] at h
 have:=bW.LW h (fun x hx=>by
  rcases List.mem_append.1 hx with hx|hx
  ·rw [List.eq_of_mem_replicate hx];omega
  ·simp at hx;omega) (fun j hj=>by
  have e:j=k:=by simpa using hj.symm
  subst e;rw [bY,dZ zi];simp
  omega)
 rwa [iY,uL,List.length_replicate,dK] at this
theorem rF (n:Nat) (hn:n≤100000) (w:World) :
  Calls Tryz.prog 312 #[Z I (n:Int)] w (fun e w'=>∃ v,e= aj v∧Below w.heap.size w w'∧bW w' v (10^n)):=by
 obtain ⟨i0,hi,hz0,hz1,hz2⟩:=info_parts Ab;have W0:∀ z:Int,0≤z∧z≤1000000000→I.wrap z=z:=fun z h=>by unfold IntKind.wrap;simp [IntKind.bits,IntKind.signed];omega
 obtain ⟨k,hk⟩:∃ k,n / 9=k:=⟨_,rfl⟩;obtain ⟨r,hr⟩:∃ r,n%9=r:=⟨_,rfl⟩
 have e10:10^n=1000000000^k*10^r:=by
  rw [show (1000000000:Nat)=10^9 by decide,← Nat.pow_mul,← fQ]
  congr 1
  omega
 rw [e10];have t1:(n:Int).tdiv 9=(k:Int):=by rw [Int.tdiv_eq_ediv_of_nonneg zo];omega
 have t2:(n:Int).tmod 9=(r:Int):=by rw [Int.tmod_eq_emod_of_nonneg zo];omega
 have u1:=W0 (k:Int) zo;have u2:=W0 ((k:Int)+1) zo;have u3:=W0 (r:Int) zo;have hr8:r≤8:=by omega
 have hk9:k≤100000:=by omega
 have HT:Hid (∀ i,i≤r→0<10^i∧10^i≤100000000):=zh fun i hi=>⟨Nat.pow_pos zo,ay (bI zo (show i≤8 by omega)) zd⟩;clear e10 hk hr W0;go_enter Tryz.func312,Tryz.ntmps312
 go_wp2_with (at_make;refine wpList_make_full _ rfl _ _ 255 rfl w.heap.size 61 i0 (Z .u32 0) 1 Tryz.underlying255 hi hz0 hz1 _ _ _ _ (k+1) rfl rfl zo zo (by rw [hz2];omega) (by unfold maxLen;omega) (aD _) ?_)
 intro w0 hown0 kJ;rw [qR] at hown0;have hb0:Below w.heap.size w w0:=(Below.refl _ _).grown kJ (aD _) (fun k h=>by cases h);have HO:=zh hown0;have HB:=zh hb0;clear hown0 kJ hb0;go_wp2_with fail
 go_loopw [4,11] (fun tv iv wr=>∃ i:Nat,iv= Z I (i:Int)∧i≤r∧tv= Z .u32 ((10^i:Nat):Int)∧wr=w0) (fun _ iv _=>r - (intOf iv).toNat)
 case atStart=>exact ⟨0,rfl,by omega,rfl,rfl⟩
 case round =>
  obtain ⟨i,rfl,hi,rfl,rfl⟩:=hrel;obtain ⟨h1,h2⟩:=HT.out i hi
  rcases aO i r with hlt|hge
  ·have h3:=(HT.out (i+1) zo).2;obtain ⟨b,hB⟩:∃ b,Hid (10^(i+1)=b):=⟨_,zh rfl⟩;rw [hB.out] at h3;have e:((10^i:Nat):Int)*10=(b:Int):=by rw [← hB.out,bN];omega
   have he:IntKind.u32.wrap (((10^i:Nat):Int)*10)=(b:Int):=by rw [e];unfold IntKind.wrap;simp [IntKind.bits,IntKind.signed];omega
   clear e h3 h1 h2;generalize 10^i=a at *;go_wp2_with fail
   go_roundw
   case rel=>exact ⟨i+1,by go_num,by omega,by rw [hB.out],trivial⟩
   case measure=>exact zM
  ·obtain rfl:i=r:=by omega
   obtain ⟨d,hD⟩:∃ d,Hid (10^i=d):=⟨_,zh rfl⟩;rw [hD.out] at h1 h2 ⊢;have q1:wr.cell? ⟨w.heap.size,k,none⟩=some (.int .u32 0):=by rw [HO.out.cellAt k zo,nP zi];simp
   have q2:wr.frozen? ⟨w.heap.size,k,none⟩=false:=HO.out.frozenAt k
   have HS:Hid (bW (wr.setCell ⟨w.heap.size,k,none⟩ (Z .u32 (d:Int))) (ah (some ⟨w.heap.size,0,none⟩) (k+1) (k+1)) (1000000000^k*d)):=zh (by
    have h3:=(HO.out.stored k (Z .u32 (d:Int))).1;rw [kU] at h3;exact Wm (nC.ig h3) h1 zo)
   have hb:Below w.heap.size w (wr.setCell ⟨w.heap.size,k,none⟩ (Z .u32 (d:Int))):=HB.out.setCell (aD _) _;go_wp2_with fail
   go_ret
   exact ⟨_,rfl,hb,by rw [hD.out];exact HS.out⟩
end Go.Proofs.whole
namespace Go.Proofs.whole
open Go Go.RowKit Go.SW Go.Num Go.Mem Go.Proofs Go.Dec
theorem yQ {y s:Nat} (hy:sz 1000000000 y≤s):∀ i,sz 1000000000 (y^i)≤s*i+1
 | 0=>cO zo _ _ (by rw [Nat.mul_zero,Nat.pow_zero];decide)
 | i+1=>by
  rw [bN];have h:=kR (B:=1000000000) zo (y^i) y;have:=yQ hy i;rw [Nat.mul_succ];omega
theorem Zt {l:Nat}:sz 1000000000 (10^l)≤l+1:=by
 refine cO zo _ _ ?_;have h1:10^l≤1000000000^l:=Nat.pow_le_pow_left zo l;have h2:1000000000^l<1000000000^(l+1):=Nat.pow_lt_pow_right zo zo;omega
theorem xI (x:Value) (a k:Nat) (w:World) (hx:bW w x a) (hk:1≤k) (k12:k≤12) (hl:(Lib.decDigits a).length≤10000) (ha:sz 1000000000 a≤10000) (ht:jH.Pow w) :
  Calls Tryz.prog 278 #[x,Z I (k:Int)] w (fun e w'=>∃ v,e= aj v∧Below w.heap.size w w'∧bW w' v (fV k a)):=by
 obtain ⟨pa,la,ca,rfl⟩:=hx.slice
 rcases aV a with rfl|ha0
 ·have hr:fV k 0=0:=Nat.le_antisymm (Jz hk (by rw [dK,Nat.one_pow];omega)) (Nat.zero_le _);rw [hr];have HX:=zh hx;clear hx hl ha ht hr;go_enter Tryz.func278,Tryz.ntmps278
  go_wp2_with fail
  refine (iK _ 0 _ HX.out).mono ?_;rintro e w1 ⟨rfl,rfl⟩;go_wp2_with fail
  go_ret
  exact ⟨_,rfl,Below.refl _ _,bW.zero _⟩
 ·have W0:∀ z:Int,0≤z∧z≤1000000000→I.wrap z=z:=fun z h=>by unfold IntKind.wrap;simp [IntKind.bits,IntKind.signed];omega
  have d0:decide (a=0)=false:=by simp;omega
  have hs:=LY (k:=k) (m:=a) hk (Db a);obtain ⟨l,El⟩:∃ l,Hid ((Lib.decDigits a).length=l):=⟨_,zh rfl⟩;have HLEN:=zh (fun W (hW:Below w.heap.size w W)=>mo _ a W (hx.later hW) (ay ha zo) (ht.later hW));rw [El.out] at hs hl HLEN;obtain ⟨j,Ej⟩:∃ j,l / k=j:=⟨_,rfl⟩;have hjl:j≤l:=by rw [← Ej];exact Nat.div_le_self _ _
  have t1:(l:Int).tdiv (k:Int)=(j:Int):=by rw [Int.tdiv_eq_ediv_of_nonneg zo,← Ej];rfl
  rw [Ej] at hs;have kz:¬ k=0:=by omega
  have kz2:(k:Int)≠0:=by omega
  have kz3:((k:Int) == 0)=false:=by simp;omega
  have u1:=W0 (j:Int) zo;have u2:=W0 ((j:Int)+1) zo;obtain ⟨m,hm⟩:∃ m,Hid (k=m+1):=⟨k - 1,zh zo⟩;have e1:(k:Int) - 1=(m:Int):=by have:=hm.out;omega
  have aO3:m≤11:=by have:=hm.out;omega
  have u3:=W0 (m:Int) zo;have u4:IntKind.u64.wrap (m:Int)=(m:Int):=by unfold IntKind.wrap;simp [IntKind.bits,IntKind.signed];omega
  have u5:IntKind.u32.wrap (k:Int)=(k:Int):=by unfold IntKind.wrap;simp [IntKind.bits,IntKind.signed];omega
  have aF6:=zh (fun W=>rF (j+1) zo W);have HX:=zh hx;have HA:=zh ha;have HS:=zh hs;have HA0:=zh ha0;have HRP:Hid (1≤fV k a):=zh (ug hk (by rw [Nat.one_pow];exact ha0));clear hx ha hs ht W0 Ej;go_enter Tryz.func278,Tryz.ntmps278
  go_wp2_with fail
  refine (iK _ a _ HX.out).mono ?_;rintro e w1 ⟨rfl,rfl⟩;rw [d0];go_wp2_with fail
  refine (HLEN.out _ (Below.refl _ _)).mono ?_;rintro e w2 ⟨rfl,hb2⟩;go_wp2_with fail
  refine (aF6.out _).mono ?_;rintro e w3 ⟨v,rfl,hb3,hv⟩;obtain ⟨pv,lv,cv,rfl⟩:=hv.slice;have HV:=zh hv;have HB:=zh (Bt hb2 hb3);clear hv hb2 hb3;go_wp2_with fail
  go_loopw [5] (fun xv wr=>∃ y:Nat,Hid (bW wr xv y)∧Hid (fV k a≤y∧y≤10^(j+1))∧Below w.heap.size w wr) (fun xv wr=>Cn wr xv)
  case atStart=>exact ⟨_,HV,zh ⟨HS.out,aD _⟩,HB.out⟩
  case round =>
   obtain ⟨y,HY,HR,hb⟩:=hrel;obtain ⟨py,ly,cy,rfl⟩:=HY.out.slice;have hy0:0<y:=by have:=HR.out.1;have:=HRP.out;omega
   have hys:sz 1000000000 y≤10002:=ay (gu zo HR.out.2) (ay Zt zo);have Nv:=zh (Jf _ y m wr HY.out zo (fun i hi=>ay (yQ hys i) (by have:=aR 10002 (show i≤12 by omega);omega)) (ay hys zo));have HYS:=zh hys;have HY0:=zh hy0;have HBr:=zh hb;clear hb hys hy0;go_wp2_with fail
   refine Nv.out.mono ?_;rintro e w4 ⟨v4,rfl,hb4,hv4⟩;obtain ⟨p4,l4,c4,rfl⟩:=hv4.slice;have HV4:=zh hv4;have HB4:=zh hb4;clear hv4 hb4 Nv;have HD:=zh (iw _ _ a (y^m) _ (HX.out.later (Bt HBr.out HB4.out)) HV4.out (Nat.pow_pos HY0.out) (ay HA.out zo));go_wp2_with fail
   refine HD.out.mono ?_;rintro e w5 ⟨v5,v6,rfl,hb5,hv5, -⟩;obtain ⟨p5,l5,c5,rfl⟩:=hv5.slice;have HV5:=zh hv5;have HB5:=zh (Bt HB4.out hb5);clear hv5 hb5 HD HV4 HB4;go_wp2_with fail
   refine (mW m _ zo).mono ?_;rintro e w6 ⟨v7,rfl,hb6,hv6⟩;obtain ⟨p6,l6,c6,rfl⟩:=hv6.slice;have sm:sz 1000000000 m≤2:=cO zo 2 _ zo;have HM:=zh (jQ _ _ y m _ (HY.out.later (Bt HB5.out hb6)) hv6 (ay HYS.out zo) (ay sm zo));have at5:=zh (HV5.out.later hb6);have Vz:=zh (Bt HB5.out hb6);clear hv6 hb6 HV5 HB5;go_wp2_with fail
   refine HM.out.mono ?_;rintro e w7 ⟨v8,rfl,jP,hv7⟩;obtain ⟨p7,l7,c7,rfl⟩:=hv7.slice
   have s7:sz 1000000000 (y*m)≤10100:=by
    have h1:=kR (B:=1000000000) zo y m;have h2:=HYS.out;omega
   have s5:sz 1000000000 (a / y^m)≤10000:=ay (gu zo (Nat.div_le_self _ _)) HA.out;have HP:=zh (AZ _ _ (y*m) (a / y^m) _ hv7 (at5.out.later jP) (ay s7 zo) (ay s5 zo))
   have au0:Hid (sz 1000000000 (y*m+a / y^m)≤1099511627776):=zh (by
    have:=vU (B:=1000000000) zo (y*m) (a / y^m);omega)
   have HB7:=zh (Bt Vz.out jP);clear hv7 jP HM at5 Vz s7 s5;go_wp2_with fail
   refine HP.out.mono ?_;rintro e w8 ⟨v9,rfl,Iw,qC⟩;obtain ⟨p8,l8,c8,rfl⟩:=qC.slice;have HSH:=zh (xD _ _ k _ qC au0.out zo zo);have HB8:=zh (Bt HB7.out Iw);clear qC Iw HP au0 HB7;have en:(y*m+a / y^m) / k=L6 k a y:=by unfold L6;rw [show k - 1=m by have:=hm.out;omega]
   rw [en] at HSH;obtain ⟨z,Ez⟩:∃ z,Hid (L6 k a y=z):=⟨_,zh rfl⟩;rw [Ez.out] at HSH;clear en;go_wp2_with fail
   refine HSH.out.mono ?_;rintro e w9 ⟨v10,rfl,sZ,hv9⟩;obtain ⟨p9,l9,c9,rfl⟩:=hv9.slice;have HV9:=zh hv9;have HB9:=zh (Bt HB8.out sZ);have HCM:=zh (jM _ _ z y _ hv9 (HY.out.later (Bt HB8.out sZ)));clear hv9 sZ HSH HB8;go_wp2_with fail
   refine HCM.out.mono ?_;rintro e w10 ⟨rfl,jF⟩;have ah3:=zh (Bt HB9.out jF);have at7:=zh (HV9.out.later jF);have HYZ:=zh (HY.out.later ah3.out);clear HCM HB9 HV9 jF
   rcases aO z y with hlt|hge
   ·rw [qx hlt];have hz:=Bt HBr.out ah3.out;go_wp2_with fail
    go_roundw
    case rel=>exact ⟨z,at7,zh ⟨by rw [← Ez.out];exact Xa hk HY0.out,by have:=HR.out.2;omega⟩,hz⟩
    case measure=>rw [tZ at7.out,tZ HY.out];exact hlt
   ·have g:decide ((0:Int)≤vZ z y)=true:=by
     rcases Nat.eq_or_lt_of_le hge with h|h
     ·rw [h,rQ];rfl
     ·rw [oW h];rfl
    have hw:=Bt HBr.out ah3.out;have HE:Hid (y=fV k a):=zh (TL hk HY0.out HR.out.1 (by rw [Ez.out];exact hge));go_wp2_with fail
    go_ret
    exact ⟨_,rfl,hw,by rw [← HE.out];exact HYZ.out⟩
end Go.Proofs.whole
namespace Go.Proofs.whole
open Go Go.RowKit Go.SW Go.Num Go.Mem Go.Proofs Go.Dec Go.gD
def AV (z:Int):Value:=if kI z.natAbs=true then aG #[dW z,Z I 0] else aG #[O ⟨#[]⟩,Z I 6]
theorem kT (v:Value) (z:Int) (w:World) (h:fD w v z) (kz:sz 1000000000 z.natAbs≤1099511627776) (ht:jH.Pow w) :
  Calls Tryz.prog 255 #[v] w (fun e w'=>e= aj (AV z)∧Below w.heap.size w w'):=by
 obtain ⟨pa,l,ca,rfl,hm⟩:=h
 have hlen:((1+(Lib.decDigits z.natAbs).length:Nat):Int)≤9223372036854775807:=by
  have h1:=uD (cZ (B:=1000000000) zo z.natAbs);rw [bQ zo] at h1;unfold sz at kz;omega
 have YP:¬ 9223372036854775807<1+(Lib.decDigits z.natAbs).length:=by omega
 have FY:=zh (fun W (hW:Below w.heap.size w W)=>mo _ z.natAbs W (hm.later hW) kz (ht.later hW));have HDI:=zh (fun W (hW:Below w.heap.size w W)=>qX _ z.natAbs W (hm.later hW) kz (ht.later hW));unfold AV;clear hm kz ht hlen
 rcases aO 600 (Lib.decDigits z.natAbs).length with hb|hb
 ·rw [if_neg (by rw [LP hb];decide)];have g:decide ((600:Int)<((Lib.decDigits z.natAbs).length:Int))=true:=by simp;omega
  clear hb YP;generalize (Lib.decDigits z.natAbs).length=n at *;generalize decide (z<0)=b at *;go_enter Tryz.func255,Tryz.ntmps255
  go_wp2_with fail
  refine (FY.out _ aF).mono ?_;rintro e w1 ⟨rfl,hb1⟩;have hw:=Bt (show Below w.heap.size w (w.alloc (.cells #[ah pa l ca,ak b] 257)) from aF) hb1;go_wp2_with fail
  go_ret2
  exact ⟨rfl,hw⟩
 ·rw [if_pos (fK.2 hb)];have g:decide ((600:Int)<((Lib.decDigits z.natAbs).length:Int))=false:=by simp;omega
  by_cases hz:z<0
  ·have e:dW z= O ⟨(45::Lib.decDigits z.natAbs).toArray⟩:=by unfold dW Lib.itoa;rw [if_pos hz]
   rw [e,decide_eq_true hz];clear e hz hb;go_enter Tryz.func255,Tryz.ntmps255
   go_wp2_with fail
   refine (FY.out _ aF).mono ?_;rintro e w1 ⟨rfl,hb1⟩;have hx:=aA.later (aA.new w #[ah pa l ca,ak true] 257) hb1;have cx:=hx.cell;have lx:=hx.lt;have HW:=zh (Bt (show Below w.heap.size w (w.alloc (.cells #[ah pa l ca,ak true] 257)) from aF) hb1);go_wp2_with fail
   refine (HDI.out _ HW.out).mono ?_;rintro e w2 ⟨rfl,hb2⟩;have hw:=Bt HW.out hb2;go_wp2_with fail
   go_ret2
   exact ⟨rfl,hw⟩
  ·have e:dW z= O ⟨(Lib.decDigits z.natAbs).toArray⟩:=by unfold dW Lib.itoa;rw [if_neg hz,show z.toNat=z.natAbs by omega]
   rw [e,decide_eq_false hz];clear e hz hb;go_enter Tryz.func255,Tryz.ntmps255
   go_wp2_with fail
   refine (FY.out _ aF).mono ?_;rintro e w1 ⟨rfl,hb1⟩;have hx:=aA.later (aA.new w #[ah pa l ca,ak false] 257) hb1;have cx:=hx.cell;have lx:=hx.lt;have HW:=zh (Bt (show Below w.heap.size w (w.alloc (.cells #[ah pa l ca,ak false] 257)) from aF) hb1);go_wp2_with fail
   refine (HDI.out _ HW.out).mono ?_;rintro e w2 ⟨rfl,hb2⟩;have hw:=Bt HW.out hb2;go_wp2_with fail
   go_ret2
   exact ⟨rfl,hw⟩
theorem qB {a b:Nat} (h:kI b=true) (hab:a≤b):kI a=true:=by
 unfold kI at *;have:=of_decide_eq_true h;exact decide_eq_true zo
theorem pE {k a:Nat} (hk:1≤k):fV k a≤a:=by
 have h:=(lK hk a).1
 rcases aV (fV k a) with h0|h0
 ·omega
 ·have:=Nat.le_self_pow (by omega:k≠0) (fV k a);omega
theorem tF {a:Nat} (h:kI a=true):AV (a:Int)= aG #[dW (a:Int),Z I 0]:=by
 unfold AV;rw [Int.natAbs_natCast,if_pos h]
theorem Ib (a k:Nat) (ha:kI a=true) (hk:1≤k) (k12:k≤12) (w:World) (ht:jH.Pow w) :
  Calls Tryz.prog 232 #[dW (a:Int),Z I (k:Int)] w (fun e w'=>e= aj (aG #[dW (fV k a:Nat),Z I 0])∧Below w.heap.size w w'):=by
 have hd:(Lib.decDigits a).length≤600:=fK.1 ha;have hs:=kH ha;have hro:kI (fV k a)=true:=qB ha (pE hk);have HR:=zh (fun W=>xK (a:Int) (by rw [Int.natAbs_natCast];exact hd) W);have HRT:=zh (fun x W hx hp=>xI x a k W hx hk k12 zo zo hp);have K5:=zh (fun v W h hp=>kT v (fV k a:Nat) W h (by rw [Int.natAbs_natCast];exact ay (kH hro) zo) hp);rw [tF hro] at K5;have HP:=zh ht;have g0:decide ((a:Int)<0)=false:=by simp
 have g1:decide ((k:Int)<1)=false:=by simp;omega
 have g2:decide ((12:Int)<(k:Int))=false:=by simp;omega
 clear hd hs hro ha ht;obtain ⟨r,Er⟩:∃ r,fV k a=r:=⟨_,rfl⟩;rw [Er] at HRT K5 ⊢;clear Er;unfold dW at HR K5 ⊢;generalize (⟨(Lib.itoa (a:Int)).toArray⟩:ByteArray)=ta at *;generalize (⟨(Lib.itoa (r:Int)).toArray⟩:ByteArray)=tr at *;go_enter Tryz.func232,Tryz.ntmps232
 go_wp2_with fail
 refine (HR.out _).mono ?_;rintro e w1 ⟨v,rfl,hb1,hv⟩;obtain ⟨pa,l,ca,rfl,hm⟩:=hv;rw [Int.natAbs_natCast] at hm;rw [g0];have HM:=zh hm;have HB1:=zh hb1;clear hm hb1;go_wp2_with fail
 have hb2:Below w1.heap.size w1 (w1.alloc (.cells #[ah pa l ca,ak false] 257)):=aF;refine (HRT.out _ _ (HM.out.later hb2) (HP.out.later (Bt HB1.out hb2))).mono ?_;rintro e w2 ⟨v,rfl,hb3,hv⟩;obtain ⟨p2,l2,c2,rfl⟩:=hv.slice;have Y8:=zh hv;have HB2:=zh (Bt HB1.out (Bt hb2 hb3));clear hv hb2 hb3;go_wp2_with fail
 refine (fO _ r false _ Y8.out).mono ?_;rintro e w3 ⟨v,rfl,hb4,hv⟩;obtain ⟨p3,l3,c3,rfl,Um⟩:=id hv;have HI:=zh (hv.cast (show iV r false=(r:Int) from rfl));have HB3:=zh (Bt HB2.out hb4);have g3:decide (iV r false<0)=false:=by unfold iV;simp
 rw [g3] at HI ⊢;clear hv Um hb4;go_wp2_with fail
 refine (K5.out _ _ HI.out (HP.out.later HB3.out)).mono ?_;rintro e w4 ⟨rfl,hb5⟩;have hw:=Bt HB3.out hb5;go_wp2_with fail
 go_ret2
 exact ⟨rfl,hw⟩
theorem wU (a n:Nat) (ha:kI a=true) (n40:n≤40) (w:World) (ht:jH.Pow w) :
  Calls Tryz.prog 200 #[dW (a:Int),Z I (n:Int)] w (fun e w'=>e= aj (AV (a^n:Nat))∧Below w.heap.size w w'):=by
 have hd:(Lib.decDigits a).length≤600:=fK.1 ha;have hs:=kH ha;have hp:∀ i,i≤n→sz 1000000000 (a^i)≤10000:=fun i hi=>ay (yQ hs i) (by have:=aR 67 (show i≤40 by omega);omega);have HR:=zh (fun W=>xK (a:Int) (by rw [Int.natAbs_natCast];exact hd) W);have HRT:=zh (fun x W hx=>Jf x a n W hx zo (fun i hi=>ay (hp i hi) zo) zo);have K5:=zh (fun v W h hq=>kT v (a^n:Nat) W h (by rw [Int.natAbs_natCast];exact ay (hp n (aD _)) zo) hq);have HP:=zh ht;have g0:decide ((a:Int)<0)=false:=by simp
 have g1:decide ((n:Int)<0)=false:=by simp
 have g2:decide ((40:Int)<(n:Int))=false:=by simp;omega
 clear hd hs hp ha ht;obtain ⟨r,Er⟩:∃ r,a^n=r:=⟨_,rfl⟩;rw [Er] at HRT K5 ⊢;clear Er
 obtain ⟨tr,kr,Ew⟩:∃ tr kr,AV (r:Int)= aG #[O tr,Z I kr]:=by
  unfold AV dW;split
  ·exact ⟨_,_,rfl⟩
  ·exact ⟨_,_,rfl⟩
 rw [Ew] at K5 ⊢;clear Ew;unfold dW at HR ⊢;generalize (⟨(Lib.itoa (a:Int)).toArray⟩:ByteArray)=ta at *;go_enter Tryz.func200,Tryz.ntmps200
 go_wp2_with fail
 refine (HR.out _).mono ?_;rintro e w1 ⟨v,rfl,hb1,hv⟩;obtain ⟨pa,l,ca,rfl,hm⟩:=hv;rw [Int.natAbs_natCast] at hm;rw [g0];have HM:=zh hm;have HB1:=zh hb1;clear hm hb1;go_wp2_with fail
 obtain ⟨wx,EW,hz,X⟩:=wR w1 #[ah pa l ca,ak false] 257;rw [EW];clear EW;replace HM:=zh (HM.out.later hz);have HB2:=zh (Bt HB1.out hz);clear hz HB1;obtain ⟨bx,eb⟩:∃ y,w1.heap.size=y:=⟨_,rfl⟩;rw [eb] at X ⊢;have cX:=X.out.cell;have lX:=X.out.lt;refine aJ [(.pure,0),(.read,1),(.pure,2),(.pure,4),(.read,5),(.ext,3),(.pure,6),(.pure,7),(.pure,8),(.pure,9),(.pure,10),(.ext,11),(.ext,12),(.pure,13),(.pure,14),(.fin,15),(.fin,16)] zk zk zR zP ?_;refine zW ?_;refine aS rfl rfl (fun we hbe J hJ=>?_);go_simp;have h1:Below wx.heap.size wx we:=aF;refine (HRT.out _ _ (HM.out.later h1)).mono ?_;rintro e w2 ⟨v,rfl,hb2,hv⟩;obtain ⟨p2,l2,c2,rfl⟩:=hv.slice;refine hJ _ _ hb2 ?_;clear hJ J;have Y8:=zh hv;have h2:=Bt h1 hb2;clear hv h1 hbe hb2
 repeat (first|(refine oU rfl rfl (fun J hJ=>?_);go_simp;refine hJ _ ?_;clear hJ J)|(refine uK rfl rfl rfl (fun J hJ=>?_);go_simp;refine hJ _ ?_;clear hJ J))
 refine aS rfl rfl (fun we hbe J hJ=>?_);go_simp;have h3:Below w2.heap.size w2 we:=aF;refine (fO _ r false _ (Y8.out.later h3)).mono ?_;rintro e w3 ⟨v,rfl,hb3,hv⟩;obtain ⟨p3,l3,c3,rfl,Um⟩:=id hv;have HI:=zh (hv.cast (show iV r false=(r:Int) from rfl));have g3:decide (iV r false<0)=false:=by unfold iV;simp
 rw [g3] at HI ⊢;refine hJ _ _ hb3 ?_;clear hJ J;have h4:=Bt h2 (Bt h3 hb3);clear hv Um hb3 h3 h2 hbe
 repeat (first|(refine oU rfl rfl (fun J hJ=>?_);go_simp;refine hJ _ ?_;clear hJ J)|(refine uK rfl rfl rfl (fun J hJ=>?_);go_simp;refine hJ _ ?_;clear hJ J))
 refine aS rfl rfl (fun we hbe J hJ=>?_);go_simp;have h5:Below w3.heap.size w3 we:=aF;refine (K5.out _ _ (HI.out.later h5) (HP.out.later (Bt HB2.out (Bt h4 h5)))).mono ?_;rintro e w4 ⟨rfl,hb4⟩;refine hJ _ _ hb4 ?_;clear hJ J;have h6:=Bt h4 (Bt h5 hb4);clear hb4 h5 h4 hbe
 repeat (first|(refine oU rfl rfl (fun J hJ=>?_);go_simp;refine hJ _ ?_;clear hJ J)|(refine uK rfl rfl rfl (fun J hJ=>?_);go_simp;refine hJ _ ?_;clear hJ J))
 refine dA [_,_] rfl (fun wf hbf=>?_);have hw:Below w.heap.size w wf:=Bt HB2.out (Bt h6 aF);go_wp2_with fail
 go_ret2
 exact ⟨rfl,hw⟩
end Go.Proofs.whole
