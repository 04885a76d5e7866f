/- Lemmas for the proof. No condition. -/
import Derived.Test.YtneajphgfdlmhaaGreatDoorUB43
set_option linter.unusedVariables false
set_option linter.unusedSimpArgs false
set_option maxRecDepth 100000
set_option maxHeartbeats 16000000
open Bool renaming and_eq_true → aG
open Go.Ending renaming returned → ah
open Go.IntKind renaming i64 → I
open Go.Value renaming agg → au, bool → ak, int → Z, string → O, tuple → aD
open Nat renaming le_trans → ay
namespace Go.Proofs.lab
open Go Go.RowKit Go.SW Go.Num Go.Mem Go.Proofs Go.gB Go.Proofs.aW Go.Proofs.matrix Go.Proofs.aS
section
variable {p q:Rat} {a b:Nat}
theorem av5 (hp:Hq a p) (hq:Hq b q) (h:a+b+1<600):rT (Fr.of p) (Fr.of q)=(Fr.of (p - q),0):=by
 unfold rT bin wr;rw [o9 (hp.ok zo),o9 (hq.ok zo)];exact if_pos ((hp.sub hq).ok h)
theorem aw5 (hp:Hq a p) (hq:Hq b q) (h:a+b<600):kM (Fr.of p) (Fr.of q)=(Fr.of (p*q),0):=by
 unfold kM bin wr;rw [o9 (hp.ok zo),o9 (hq.ok zo)];exact if_pos ((hp.mul hq).ok h)
theorem aA4 (hp:Hq a p) (hq:Hq b q) (h:a<600) (h2:b<600):rE (Fr.of p) (Fr.of q)=(qL p q,0):=by
 unfold rE;rw [o9 (hp.ok h),o9 (hq.ok h2)]
theorem ZP (hp:Hq a p) (hq:Hq b q) (h:a<600) (h2:b<600):rJ (Fr.of p) (Fr.of q)=(decide (q<p),0):=by
 unfold rJ;rw [oQ (aA4 hp hq h h2)];exact congrArg (fun x=>(x,(0:Int))) (decide_eq_decide.2 ZE)
end
theorem Ry (f:Rat):f^3=f*f*f:=by rw [Rat.pow_succ,Rat.pow_succ,Rat.pow_succ,Rat.pow_zero,Rat.one_mul]
def wQ:Rat:=((6:Int):Rat) / ((29:Int):Rat)
def Bl:Rat:=((108:Int):Rat) / ((841:Int):Rat)
def Sc:Rat:=((4:Int):Rat) / ((29:Int):Rat)
theorem PN:Hq 3 wQ:=⟨6,29,by omega,by decide,by decide,rfl⟩
theorem Nk:Hq 3 Bl:=⟨108,841,by omega,by decide,by decide,rfl⟩
theorem Iw:Hq 3 Sc:=⟨4,29,by omega,by decide,by decide,rfl⟩
theorem YI:nk 6 29=(Fr.of wQ,0):=Vx 6 29 zo (PN.ok zo)
theorem ah3:nk 108 841=(Fr.of Bl,0):=Vx 108 841 zo (Nk.ok zo)
theorem ah2:nk 4 29=(Fr.of Sc,0):=Vx 4 29 zo (Iw.ok zo)
def gQ (f:Rat):Rat:=if wQ<f then f^3 else Bl*(f - Sc)
theorem Za {k:Nat} {f:Rat} (h:Hq k f):Hq (3*k+10) (gQ f):=by
 unfold gQ;split
 ·rw [Ry];exact ((h.mul h).mul h).mono zo
 ·exact (Nk.mul (h.sub Iw)).mono zo
theorem vU {k:Nat} {f:Rat} (h:Hq k f) (hk:k<150):gJ (Fr.of f)=(Fr.of (gQ f),0):=by
 unfold gJ;rw [oQ YI,oQ (ZP h PN zo zo)];unfold gQ
 by_cases c:wQ<f
 ·rw [if_pos c,decide_eq_true c]
  have e:Ie (Fr.of f) 3=(Fr.of (f^3),0):=by
   unfold Ie wr;rw [o9 (h.ok zo)];have:Hq (k+k+k) (f^3):=by rw [Ry];exact (h.mul h).mul h
   exact if_pos (this.ok zo)
  simp only [cond_true];exact oQ e
 ·rw [if_neg c,decide_eq_false c];simp only [cond_false];rw [oQ ah3,oQ ah2,oQ (av5 h Iw zo)];exact oQ (aw5 Nk (h.sub Iw) zo)
theorem Gz {a b:Rat} (h0:0≤a) (h:a≤b):a^3≤b^3:=by
 have hb:0≤b:=Rat.le_trans h0 h;have h1:a*a≤b*b:=Rat.le_trans (Rat.mul_le_mul_of_nonneg_left h h0) (Rat.mul_le_mul_of_nonneg_right h hb);rw [Ry,Ry];exact Rat.le_trans (Rat.mul_le_mul_of_nonneg_left h (Rat.mul_nonneg h0 h0)) (Rat.mul_le_mul_of_nonneg_right h1 hb)
theorem Sb:wQ^3=ax0:=by decide+kernel
theorem al5:Bl*(wQ - Sc)=ax0:=by decide+kernel
theorem ac1:0≤wQ:=by decide+kernel
theorem al0 {x y:Rat} (h:x≤y):gQ x≤gQ y:=by
 have l:∀ {a b:Rat},a≤b→Bl*(a - Sc)≤Bl*(b - Sc):=fun {a b} h=>Rat.mul_le_mul_of_nonneg_left (by grind) (by decide+kernel)
 unfold gQ
 by_cases cx:wQ<x
 ·have cy:wQ<y:=Std.lt_of_lt_of_le cx h;rw [if_pos cx,if_pos cy];exact Gz (Rat.le_trans ac1 (Rat.le_of_lt cx)) h
 ·rw [if_neg cx]
  by_cases cy:wQ<y
  ·rw [if_pos cy];have h1:=l (Rat.not_lt.1 cx);rw [al5,← Sb] at h1;exact Rat.le_trans h1 (Gz ac1 (Rat.le_of_lt cy))
  ·rw [if_neg cy];exact l h
end Go.Proofs.lab
namespace Go.Proofs.lab
open Go Go.RowKit Go.SW Go.Num Go.Mem Go.Proofs Go.gB Go.Proofs.aW Go.Proofs.matrix Go.Proofs.aS
section
variable {p a b:Rat} (hp:Hq 5 p) (ha:Hq 5 a) (hb:Hq 5 b)
include hp ha hb
end
section
variable {p a b u v w:Rat} (hp:Hq 5 p) (ha:Hq 5 a) (hb:Hq 5 b) (hu:Hq 4 u) (hv:Hq 4 v) (hw:Hq 4 w) (u0:0<u) (v0:0<v) (w0:0<w)
include hp ha hb hu hv hw u0 v0 w0
end
theorem av8:Ut (16*1000000000000)=((16*1000000000000,16*1000000000000),0):=by decide+kernel
section
variable {p a b u v w:Rat} (hp:Hq 5 p) (ha:Hq 5 a) (hb:Hq 5 b) (hu:Hq 4 u) (hv:Hq 4 v) (hw:Hq 4 w) (u0:0<u) (v0:0<v) (w0:0<w)
 (p0:0≤p) (p1:p≤100) (a0: -128≤a) (a1:a≤128) (b0: -128≤b) (b1:b≤128)
include p0 p1
include a0 a1
omit a0 a1
include b0 b1
include a0 a1 hp ha hb hu hv hw u0 v0 w0
end
theorem ac0 {b:Int × Int} (h:gM b.1 b.2=true):JY b=(Fr.of (un b.1),0)∧AO b=(Fr.of (un b.2),0)∧Hq 18 (un b.1)∧Hq 18 (un b.2):=by
 obtain ⟨h1,h2,h3⟩:=zY h;have q1:Hq 18 (un b.1):=⟨b.1,1000000000000,by omega,by decide+kernel,ay h1 (by decide+kernel),rfl⟩;have q2:Hq 18 (un b.2):=⟨b.2,1000000000000,by omega,by decide+kernel,ay h2 (by decide+kernel),rfl⟩;unfold JY AO;rw [if_pos h,if_pos h];exact ⟨Vx _ _ zo (q1.ok zo),Vx _ _ zo (q2.ok zo),q1,q2⟩
section
variable {p a b u v w:Rat} (hp:Hq 5 p) (ha:Hq 5 a) (hb:Hq 5 b) (hu:Hq 4 u) (hv:Hq 4 v) (hw:Hq 4 w) (u0:0<u) (v0:0<v) (w0:0<w) (u1:u≤2) (v1:v≤2) (w1:w≤2)
include hu hv hw u0 v0 w0 u1 v1 w1
end
end Go.Proofs.lab
namespace Go.Proofs.verdigrislaw24
open Go Go.RowKit Go.SW Go.Num Go.Mem Go.Proofs Go.Dec Go.gB Go.Proofs.lab Go.Proofs.fM
theorem tC (a b c d e f:Int) (w:World):(Op.equalIn 10000 42 (au #[Z I a,Z I b,Z I c,Z I d,Z I e,Z I f]) (au #[Z I a,Z I b,Z I c,Z I d,Z I e,Z I f])).run Tryz.prog w= .ok true w:=by
 obtain ⟨i0,hi⟩:=Option.isSome_iff_exists.1 (show (Tryz.prog.info? 40).isSome=true by kernel_rfl);rw [run_equalIn_array w 9999 _ _ Tryz.underlying42 hi];have hc:Tryz.prog.cellsOf 40=2:=by kernel_rfl
 rw [hc];go_simp;simp only [Op.eqItems];go_simp
theorem wX {x y z d:Int} {s1 s2 s3 s4 s5 s6:ByteArray} (e:tq x y z d=⟨⟨s1,s2⟩,⟨s3,s4⟩,⟨s5,s6⟩⟩) (h:(sm x d&&sm y d&&sm z d)=true) (W:World) (ht:jN.Pow W) :
  Calls Tryz.prog 38 #[Z I x,Z I y,Z I z,Z I d] W (fun e w'=>e= ah (au #[O s1,O s2,O s3,O s4,O s5,O s6])∧Below W.heap.size W w'):=by
 simp only [aG] at h;have:=af2 x y z d h.1.1 h.1.2 h.2 W ht;rw [e] at this;exact this
theorem qH {x y z d p q r:Int} (hx:(-1000≤x∧x≤1000)∧(-1000≤y∧y≤1000)∧(-1000≤z∧z≤1000)∧(1≤d∧d≤1000)) (hp:MG x d=p) (hq:MG y d=q) (hr:MG z d=r) (W:World) :
  Calls Tryz.prog 16 #[Z I x,Z I y,Z I z,Z I d] W (fun e w'=>e= ah (au #[Z I p,Z I p,Z I q,Z I q,Z I r,Z I r])∧Below W.heap.size W w'):=by
 subst hp hq hr;exact zl x y z d hx.1 hx.2.1 hx.2.2.1 hx.2.2.2 W
theorem II {w w':World} {v z:Value} {k:Int} {e:Ending} (h:EU w v z k e w') (hz:k≠0→v=z):e= ah (aD #[v,Z I k])∧Below w.heap.size w w':=by
 obtain ⟨hb,⟨rfl,rfl⟩|⟨hk,rfl⟩⟩:=h
 ·exact ⟨rfl,hb⟩
 ·rw [hz hk];exact ⟨rfl,hb⟩
theorem Jr {t w:light.iC} {v:((Int × Int) × (Int × Int) × (Int × Int))} {k:Int} (h:LY t w=(v,k)) (W:World) (ht:jN.Pow W) (he:whole.Er W) (hz:k≠0→v=z3:=by decide) :
  Calls Tryz.prog 14 #[.agg #[.string t.x.n,.string t.x.d,.string t.y.n,.string t.y.d,.string t.z.n,.string t.z.d],.agg #[.string w.x.n,.string w.x.d,.string w.y.n,.string w.y.d,.string w.z.n,.string w.z.d]] W (fun e w'=>e= .returned (.tuple #[.agg #[.int .i64 v.1.1,.int .i64 v.1.2,.int .i64 v.2.1.1,.int .i64 v.2.1.2,.int .i64 v.2.2.1,.int .i64 v.2.2.2],.int .i64 k])∧Below W.heap.size W w') :=
 (ZT (gq.of h) W ht he).mono fun _ _ g=>II g fun hk=>by rw [hz hk];rfl
theorem oo {t w:light.iC} {v:light.iC} {k:Int} (h:lJ t w=(v,k)) (W:World) (ht:jN.Pow W) (he:whole.Er W) (hz:k≠0→v=t0:=by decide) :
  Calls Tryz.prog 32 #[.agg #[.string t.x.n,.string t.x.d,.string t.y.n,.string t.y.d,.string t.z.n,.string t.z.d],.agg #[.string w.x.n,.string w.x.d,.string w.y.n,.string w.y.d,.string w.z.n,.string w.z.d]] W (fun e w'=>e= .returned (.tuple #[.agg #[.string v.x.n,.string v.x.d,.string v.y.n,.string v.y.d,.string v.z.n,.string v.z.d],.int .i64 k])∧Below W.heap.size W w') :=
 (Ul (gq.of h) W ht he).mono fun _ _ g=>II g fun hk=>by rw [hz hk];rfl
theorem encode_at {t v:light.iC} {k:Int} (h:al8 t=(v,k)) (W:World) (ht:jN.Pow W) (hz:k≠0→v=t0:=by decide) :
  Calls Tryz.prog 25 #[.agg #[.string t.x.n,.string t.x.d,.string t.y.n,.string t.y.d,.string t.z.n,.string t.z.d]] W (fun e w'=>e= .returned (.tuple #[.agg #[.string v.x.n,.string v.x.d,.string v.y.n,.string v.y.d,.string v.z.n,.string v.z.d],.int .i64 k])∧Below W.heap.size W w') :=
 (XM (gq.of h) W ht).mono fun _ _ g=>II g fun hk=>by rw [hz hk];rfl
theorem JL {t v:(Int × Int) × (Int × Int) × (Int × Int)} {k:Int} (h:af9 t=(v,k)) (W:World) (ht:jN.Pow W) (he:whole.Er W) (hz:k≠0→v=z3:=by decide) :
  Calls Tryz.prog 22 #[.agg #[.int .i64 t.1.1,.int .i64 t.1.2,.int .i64 t.2.1.1,.int .i64 t.2.1.2,.int .i64 t.2.2.1,.int .i64 t.2.2.2]] W (fun e w'=>e= .returned (.tuple #[.agg #[.int .i64 v.1.1,.int .i64 v.1.2],.agg #[.int .i64 v.2.1.1,.int .i64 v.2.1.2,.int .i64 v.2.2.1,.int .i64 v.2.2.2],.int .i64 k])∧Below W.heap.size W w') :=
 (ZX (gq.of h) W ht he).mono fun _ _ g=>by
  obtain ⟨hb,⟨rfl,rfl⟩|⟨hk,rfl⟩⟩:=g
  ·exact ⟨rfl,hb⟩
  ·rw [hz hk];exact ⟨rfl,hb⟩
theorem UF (w:World) (ht:jN.Pow w) (he:whole.Er w):Calls Tryz.prog 10 #[] w (fun e w'=>e= ah (ak true)∧Below w.heap.size w w'):=by
 have HP:=zh ht;have HE:=zh he;clear ht he;obtain ⟨⟨⟨Ol,Oj⟩,⟨Oi,Oh⟩,⟨Og,Oe⟩⟩,ET0⟩:∃ y,Hid (tq 1 1 1 1=y):=⟨_,zh rfl⟩;have C0:=hd (fun W h=>wX ET0.out (by decide+kernel) W h);obtain ⟨⟨⟨aC1,aC0⟩,⟨aB9,aB8⟩,⟨aB7,aB6⟩⟩,ET1⟩:∃ y,Hid (tq 9 10 11 10=y):=⟨_,zh rfl⟩;have C1:=hd (fun W h=>wX ET1.out (by decide+kernel) W h);have C2:=hd (fun W ht he=>Jr (t:=⟨⟨aC1,aC0⟩,⟨aB9,aB8⟩,⟨aB7,aB6⟩⟩) (w:=⟨⟨aC1,aC0⟩,⟨aB9,aB8⟩,⟨aB7,aB6⟩⟩) (v:=((100000000000000,100000000000000),(0,0),(0,0))) (k:=0) (by rw [← ET1.out];decide+kernel) W ht he zd);obtain ⟨⟨⟨Od,Oc⟩,⟨Ob,Oa⟩,⟨N9,N8⟩⟩,ET2⟩:∃ y,Hid (tq 1 1 1 8=y):=⟨_,zh rfl⟩;have C3:=hd (fun W h=>wX ET2.out (by decide+kernel) W h)
 have C4:=hd (fun W ht he=>Jr (t:=⟨⟨Od,Oc⟩,⟨Ob,Oa⟩,⟨N9,N8⟩⟩) (w:=⟨⟨Ol,Oj⟩,⟨Oi,Oh⟩,⟨Og,Oe⟩⟩) (v:=((42000000000000,42000000000000),(0,0),(0,0))) (k:=0) (by rw [← ET2.out,← ET0.out];decide+kernel) W ht he zd);obtain ⟨⟨⟨aO1,aO0⟩,⟨aN9,aN8⟩,⟨aN7,aN6⟩⟩,ET3⟩:∃ y,Hid (tq 42 0 0 1=y):=⟨_,zh rfl⟩;have C5:=hd (fun W h=>wX ET3.out (by decide+kernel) W h);have C6:=hd (fun W ht he=>oo (t:=⟨⟨aO1,aO0⟩,⟨aN9,aN8⟩,⟨aN7,aN6⟩⟩) (w:=⟨⟨Ol,Oj⟩,⟨Oi,Oh⟩,⟨Og,Oe⟩⟩) (v:=⟨⟨Od,Oc⟩,⟨Ob,Oa⟩,⟨N9,N8⟩⟩) (k:=0) (by rw [← ET3.out,← ET0.out,← ET2.out];decide+kernel) W ht he (fun h=>absurd rfl h));obtain ⟨⟨⟨aN5,aN4⟩,⟨aN3,aN2⟩,⟨aN1,aN0⟩⟩,ET4⟩:∃ y,Hid (tq (-16) 0 0 1=y):=⟨_,zh rfl⟩;have C7:=hd (fun W h=>wX ET4.out (by decide+kernel) W h)
 have C8:=hd (fun W ht he=>oo (t:=⟨⟨aN5,aN4⟩,⟨aN3,aN2⟩,⟨aN1,aN0⟩⟩) (w:=⟨⟨Ol,Oj⟩,⟨Oi,Oh⟩,⟨Og,Oe⟩⟩) (v:=⟨⟨⟨#[]⟩,⟨#[]⟩⟩,⟨⟨#[]⟩,⟨#[]⟩⟩,⟨⟨#[]⟩,⟨#[]⟩⟩⟩) (k:=9) (by rw [← ET4.out,← ET0.out];decide+kernel) W ht he (fun _=>rfl));have C9:=hd (fun W=>qH (x:=50) (y:=3) (z:=4) (d:=1) (p:=50000000000000) (q:=3000000000000) (r:=4000000000000) zd zd zd zd W);have C10:=hd (fun W ht he=>JL (t:=((50000000000000,50000000000000),(3000000000000,3000000000000),(4000000000000,4000000000000))) (v:=((5000000000000,5000000000000),(600000000000,600000000000),(800000000000,800000000000))) (k:=0) (by decide+kernel) W ht he);have C11:=hd (fun W=>qH (x:=50) (y:=0) (z:=0) (d:=1) (p:=50000000000000) (q:=0) (r:=0) zd zd zd zd W)
 have C12:=hd (fun W ht he=>JL (t:=((50000000000000,50000000000000),(0,0),(0,0))) (v:=((0,0),(1000000000000,1000000000000),(0,0))) (k:=0) (by decide+kernel) W ht he);obtain ⟨⟨⟨aM9,aM8⟩,⟨aM7,aM6⟩,⟨aM5,aM4⟩⟩,ET5⟩:∃ y,Hid (tq 50 0 (-128) 1=y):=⟨_,zh rfl⟩;have C13:=hd (fun W h=>wX ET5.out (by decide+kernel) W h);obtain ⟨⟨⟨TS,TR⟩,⟨TQ,TP⟩,⟨TN,TM⟩⟩,ET6⟩:∃ y,Hid (tq 1 1 0 2=y):=⟨_,zh rfl⟩;have C14:=hd (fun W ht=>encode_at (t:=⟨⟨aM9,aM8⟩,⟨aM7,aM6⟩,⟨aM5,aM4⟩⟩) (v:=⟨⟨TS,TR⟩,⟨TQ,TP⟩,⟨TN,TM⟩⟩) (k:=0) (by rw [← ET5.out,← ET6.out];decide+kernel) W ht (fun h=>absurd rfl h));have C15:=hd (fun W=>qH (x:=5) (y:=3) (z:=4) (d:=5) (p:=1000000000000) (q:=600000000000) (r:=800000000000) zd zd zd zd W);have C16:=hd (fun W=>qH (x:=0) (y:=1) (z:=0) (d:=1) (p:=0) (q:=1000000000000) (r:=0) zd zd zd zd W)
 have C17:=hd (fun W=>qH (x:=100) (y:=0) (z:=0) (d:=1) (p:=100000000000000) (q:=0) (r:=0) zd zd zd zd W);have C18:=hd (fun W=>qH (x:=42) (y:=0) (z:=0) (d:=1) (p:=42000000000000) (q:=0) (r:=0) zd zd zd zd W);have C19:=hd (fun W=>qH (x:=5) (y:=0) (z:=0) (d:=1) (p:=5000000000000) (q:=0) (r:=0) zd zd zd zd W);have C20:=hd (fun W h=>wX ET6.out (by decide+kernel) W h);refine Fx.door Tryz.func10 rfl (.nil w []) ?_;refine Fx.call [] 20 [] [] (fun W M=>C0.out _ (HP.out.later M.below)) ?_;refine Fx.aV [] 1 34 [] [] fun fT=>?_;refine Fx.call [3] 22 [] [(0,#[O Ol,O Oj,O Oi,O Oh,O Og,O Oe])] (fun W M=>C1.out _ (HP.out.later M.below)) ?_;refine Fx.call [] 23 [] [] (fun W M=>C1.out _ (HP.out.later M.below)) ?_;refine Fx.call [] 24 [] [] (fun W M=>C2.out _ (HP.out.later M.below) (HE.out.later M.below)) ?_
 refine Fx.aV [] 2 42 [(25,au #[Z I 100000000000000,Z I 100000000000000,Z I 0,Z I 0,Z I 0,Z I 0]),(26,Z I 0)] [] fun fJ=>?_;refine Fx.draw [4] [1,0,2,3,4,5,6,7,5008] [] [(3,Z I 0)] [(1,#[Z I 100000000000000,Z I 100000000000000,Z I 0,Z I 0,Z I 0,Z I 0])] ?_;refine Fx.call [3] 28 [(29,au #[O Ol,O Oj,O Oi,O Oh,O Og,O Oe])] [] (fun W M=>C3.out _ (HP.out.later M.below)) ?_;refine Fx.call [] 30 [] [] (fun W M=>C4.out _ (HP.out.later M.below) (HE.out.later M.below)) ?_;refine Fx.qA [] 4 42 [(31,au #[Z I 42000000000000,Z I 42000000000000,Z I 0,Z I 0,Z I 0,Z I 0]),(32,Z I 0)] [] fun fF=>?_
 refine Fx.draw [5] [1,0,2,3,4,5,6,7,5008] [] [(5,Z I 0)] [(2,#[Z I 42000000000000,Z I 42000000000000,Z I 0,Z I 0,Z I 0,Z I 0])] ?_;refine Fx.call [3] 34 [(35,au #[O Ol,O Oj,O Oi,O Oh,O Og,O Oe])] [] (fun W M=>C5.out _ (HP.out.later M.below)) ?_;refine Fx.call [] 36 [] [] (fun W M=>C6.out _ (HP.out.later M.below) (HE.out.later M.below)) ?_;refine Fx.qA [] 6 34 [(37,au #[O Od,O Oc,O Ob,O Oa,O N9,O N8]),(38,Z I 0)] [] fun uF=>?_;refine Fx.draw [6] [1,0,2,3,4,5,6,7,5008] [] [(7,Z I 0)] [(3,#[O Od,O Oc,O Ob,O Oa,O N9,O N8])] ?_;refine Fx.call [3] 40 [(41,au #[O Ol,O Oj,O Oi,O Oh,O Og,O Oe])] [] (fun W M=>C7.out _ (HP.out.later M.below)) ?_
 refine Fx.call [] 42 [] [] (fun W M=>C8.out _ (HP.out.later M.below) (HE.out.later M.below)) ?_;refine Fx.qA [] 8 34 [(43,au #[O (⟨#[]⟩),O (⟨#[]⟩),O (⟨#[]⟩),O (⟨#[]⟩),O (⟨#[]⟩),O (⟨#[]⟩)]),(44,Z I 9)] [] fun rQ=>?_;refine Fx.call [7] 46 [(9,Z I 9)] [(4,#[O (⟨#[]⟩),O (⟨#[]⟩),O (⟨#[]⟩),O (⟨#[]⟩),O (⟨#[]⟩),O (⟨#[]⟩)])] (fun W M=>C9.out _) ?_;refine Fx.call [] 47 [] [] (fun W M=>C10.out _ (HP.out.later M.below) (HE.out.later M.below)) ?_;refine Fx.aV [] 10 40 [(48,au #[Z I 5000000000000,Z I 5000000000000]),(49,au #[Z I 600000000000,Z I 600000000000,Z I 800000000000,Z I 800000000000]),(50,Z I 0)] [] fun P9=>?_;refine Fx.aV [] 11 70 [] [] fun P8=>?_
 refine Fx.call [8,9] 52 [(12,Z I 0)] [(5,#[Z I 5000000000000,Z I 5000000000000]),(6,#[Z I 600000000000,Z I 600000000000,Z I 800000000000,Z I 800000000000])] (fun W M=>C11.out _) ?_;refine Fx.call [] 53 [] [] (fun W M=>C12.out _ (HP.out.later M.below) (HE.out.later M.below)) ?_;refine Fx.aV [] 13 40 [(54,au #[Z I 0,Z I 0]),(55,au #[Z I 1000000000000,Z I 1000000000000,Z I 0,Z I 0]),(56,Z I 0)] [] fun Xi=>?_;refine Fx.aV [] 14 70 [] [] fun bz9=>?_;refine Fx.call [10,11] 58 [(15,Z I 0)] [(7,#[Z I 0,Z I 0]),(8,#[Z I 1000000000000,Z I 1000000000000,Z I 0,Z I 0])] (fun W M=>C13.out _ (HP.out.later M.below)) ?_;refine Fx.call [] 59 [] [] (fun W M=>C14.out _ (HP.out.later M.below)) ?_
 refine Fx.aV [] 16 34 [(60,au #[O TS,O TR,O TQ,O TP,O TN,O TM]),(61,Z I 0)] [] fun NJ=>?_;refine Fx.call [12] 62 [(17,Z I 0)] [(9,#[O TS,O TR,O TQ,O TP,O TN,O TM])] (fun W M=>C15.out _) ?_;refine Fx.aV [] 18 42 [] [] fun ZL=>?_;refine Fx.call [13] 63 [] [(10,#[Z I 1000000000000,Z I 1000000000000,Z I 600000000000,Z I 600000000000,Z I 800000000000,Z I 800000000000])] (fun W M=>C16.out _) ?_;refine Fx.aV [] 19 42 [] [] fun SQ=>?_
 refine Fx.draw [14] [0,1,2,3,4,5,6,7,8,9,10,11,12,13,14,15,16,17,18,19,20,21,22,23,24,25,26,27,28,29,30,31,32,33,34,35,36,37,38,39,40,41,42,43,44,45,46,47,48,49,50,51,52,53,54,55,56,57,58,59,60,61,62,63,64,65,66,67,68,69,70,71,72,73,74,75,5076] [] [] [(11,#[Z I 0,Z I 0,Z I 1000000000000,Z I 1000000000000,Z I 0,Z I 0])] ?_;refine Fx.call [4] 68 [(66,ak true),(67,au #[Z I 100000000000000,Z I 100000000000000,Z I 0,Z I 0,Z I 0,Z I 0])] [] (fun W M=>C17.out _) ?_;refine Fx.call [5] 77 [(75,ak true),(76,au #[Z I 42000000000000,Z I 42000000000000,Z I 0,Z I 0,Z I 0,Z I 0])] [] (fun W M=>C18.out _) ?_;refine Fx.call [6] 86 [(84,ak true),(85,au #[O Od,O Oc,O Ob,O Oa,O N9,O N8])] [] (fun W M=>C3.out _ (HP.out.later M.below)) ?_
 refine Fx.eql 0 [] 87 true true 34 (au #[O Od,O Oc,O Ob,O Oa,O N9,O N8]) (au #[O Od,O Oc,O Ob,O Oa,O N9,O N8]) [] [] (fun _=>jS _ _ _ _ _ _ _) ?_;refine Fx.call [8] 99 [(97,ak true),(98,au #[Z I 5000000000000,Z I 5000000000000])] [] (fun W M=>C19.out _) ?_;refine Fx.call [9,13,13,10,14,11,14,14,12] 137 [(135,ak true),(136,au #[O TS,O TR,O TQ,O TP,O TN,O TM])] [] (fun W M=>C20.out _ (HP.out.later M.below)) ?_;refine Fx.eql 0 [] 138 true true 34 (au #[O TS,O TR,O TQ,O TP,O TN,O TM]) (au #[O TS,O TR,O TQ,O TP,O TN,O TM]) [] [] (fun _=>jS _ _ _ _ _ _ _) ?_;exact Fx.rV [] [] (fun W M=>⟨rfl,M.below⟩)
end Go.Proofs.verdigrislaw24
namespace Go.Proofs.lab
open Go Go.RowKit Go.SW Go.Num Go.Mem Go.Proofs Go.gB Go.Proofs.aW Go.Proofs.matrix Go.Proofs.aS Go.Proofs.aH
def wA (n m:Int):Int × Int:=(n*10000000000 - m,n*10000000000+m)
def aw4 (b:Int × Int):Int × Int:=(-b.2, -b.1)
structure Wd (b:Int × Int):Prop where
 le:b.1≤b.2
 lo: -129000000000000≤b.1
 hi:b.2≤129000000000000
 far:FQ b=0∨5000000000≤FQ b
theorem Wd.neg {b:Int × Int} (h:Wd b):Wd (aw4 b):=by
 obtain ⟨h1,h2,h3,h4⟩:=h;refine ⟨?_,?_,?_,?_⟩<;>unfold aw4<;>(try unfold FQ at*)<;>simp only at* <;>omega
theorem Wd.ok {b:Int × Int} (h:Wd b):gM b.1 b.2=true:=IV (by have:=h.lo;omega) h.le (by have:=h.hi;omega)
end Go.Proofs.lab
