/- Lemmas for the proof. No condition. -/
import Derived.Test.YtneajphgfdlmhaaGreatDoorXB01
import Derived.Test.YtneajphgfdlmhaaGreatDoorXB02
import Derived.Test.YtneajphgfdlmhaaGreatDoorXB04
import Derived.Test.YtneajphgfdlmhaaGreatDoorXB07
import Derived.Test.YtneajphgfdlmhaaGreatDoorXB08
import Derived.Test.YtneajphgfdlmhaaGreatDoorXB10
import Derived.Defers
import Derived.Recover
import Derived.Tactics2
import Derived.ChangeKeysEq
set_option linter.unusedVariables false
set_option linter.unusedSimpArgs false
set_option maxRecDepth 100000
set_option maxHeartbeats 16000000
namespace Go.Proofs.lab
open Go Go.RowKit Go.SW Go.Num Go.Mem Go.Proofs Go.fF Go.Fx
def thrown (er:Int):Ending:=.panicked [{ v:=.iface 43 (.int .i64 er),recovered:=false }]
abbrev Try:=ad6 thrown
theorem iT (k:Int):∃ c,thrown k= .panicked c:=⟨_,rfl⟩
theorem vM {s t:ByteArray} {k:Int} (w:World):Calls Tryz.prog 126 #[.agg #[.string s,.string t],.int .i64 k] w (Try w (.agg #[.string s,.string t]) k):=by
 by_cases h:k=0
 ·subst h;go_enter Tryz.func126,Tryz.ntmps126
  go_wp2_with fail
  refine dH rfl rfl aJ Tryz.underlying32 rfl zk ?_;exact ⟨aD,.inl ⟨rfl,rfl⟩⟩
 ·have b1:(k != 0)=true:=by simp [h]
  have H:=zh h;clear h;go_enter Tryz.func126,Tryz.ntmps126
  go_wp2_with fail
  exact ⟨rfl,aD,.inr ⟨H.out,rfl⟩⟩
theorem kR {x y:Int} {k:Int} (w:World):Calls Tryz.prog 49 #[.agg #[.int .i64 x,.int .i64 y],.int .i64 k] w (Try w (.agg #[.int .i64 x,.int .i64 y]) k):=by
 by_cases h:k=0
 ·subst h;go_enter Tryz.func49,Tryz.ntmps49
  go_wp2_with fail
  refine dH rfl rfl aJ Tryz.underlying40 rfl zk ?_;exact ⟨aD,.inl ⟨rfl,rfl⟩⟩
 ·have b1:(k != 0)=true:=by simp [h]
  have H:=zh h;clear h;go_enter Tryz.func49,Tryz.ntmps49
  go_wp2_with fail
  exact ⟨rfl,aD,.inr ⟨H.out,rfl⟩⟩
theorem Cb {v k:Int} (w:World):Calls Tryz.prog 103 #[.int .i64 v,.int .i64 k] w (Try w (.int .i64 v) k):=by
 by_cases h:k=0
 ·subst h;go_enter Tryz.func103,Tryz.ntmps103
  go_wp2_with fail
  go_ret
  exact ⟨Below.refl _ _,.inl ⟨rfl,rfl⟩⟩
 ·have b1:(k != 0)=true:=by simp [h]
  have H:=zh h;clear h;go_enter Tryz.func103,Tryz.ntmps103
  go_wp2_with fail
  exact ⟨rfl,Below.refl _ _,.inr ⟨H.out,rfl⟩⟩
theorem UJ {s t s' t' y y':ByteArray} {k:Int} (hx:eX (sK ⟨s,t⟩ ⟨s',t'⟩) ⟨y,y'⟩ k) (w:World) (ht:iR.Pow w) :
  Calls Tryz.prog 83 #[.agg #[.string s,.string t],.agg #[.string s',.string t']] w (Try w (.agg #[.string y,.string y']) k):=by
 refine Fx.door Tryz.func83 rfl (.nil w []) ?_;have HR:=hx;refine Fx.new [] 2 #[.string s,.string t] 32 [] [] fun dW=>?_;refine Fx.new [] 3 #[.string (s'),.string (t')] 32 [] [] fun dM=>?_;refine Fx.aL [] 4 32 [] [] fun dP=>?_;obtain ⟨⟨s4,t4⟩,k4,EX,HN⟩:=jk HR;refine Fx.call [3,4] 7 [] [] (fun W M=>aX4 EX _ (ht.later M.below)) ?_;refine Fx.aX iT [] 10 [] [] (fun W M=>vM (s:=s4) (t:=t4) _) HN fun _ HR=>?_;obtain ⟨hk,hv⟩:=HR;cases hk
 exact Fx.fV (cs:=#[.string s4,.string t4]) 2 dP [5] [(2,#[.string s4,.string t4])] (fun W M=>⟨M.below,.inl ⟨rfl,by cases hv rfl;rfl⟩⟩)
theorem ar0 {s t s' t' y y':ByteArray} {k:Int} (hx:eX (zO ⟨s,t⟩ ⟨s',t'⟩) ⟨y,y'⟩ k) (w:World) (ht:iR.Pow w) :
  Calls Tryz.prog 90 #[.agg #[.string s,.string t],.agg #[.string s',.string t']] w (Try w (.agg #[.string y,.string y']) k):=by
 refine Fx.door Tryz.func90 rfl (.nil w []) ?_;have HR:=hx;refine Fx.new [] 2 #[.string s,.string t] 32 [] [] fun dW=>?_;refine Fx.new [] 3 #[.string (s'),.string (t')] 32 [] [] fun dM=>?_;refine Fx.aL [] 4 32 [] [] fun dP=>?_;obtain ⟨⟨s4,t4⟩,k4,EX,HN⟩:=jk HR;refine Fx.call [3,4] 7 [] [] (fun W M=>aW9 EX _ (ht.later M.below)) ?_;refine Fx.aX iT [] 10 [] [] (fun W M=>vM (s:=s4) (t:=t4) _) HN fun _ HR=>?_;obtain ⟨hk,hv⟩:=HR;cases hk
 exact Fx.fV (cs:=#[.string s4,.string t4]) 2 dP [5] [(2,#[.string s4,.string t4])] (fun W M=>⟨M.below,.inl ⟨rfl,by cases hv rfl;rfl⟩⟩)
theorem Nf {s t s' t' y y':ByteArray} {k:Int} (hx:eX (pI ⟨s,t⟩ ⟨s',t'⟩) ⟨y,y'⟩ k) (w:World) (ht:iR.Pow w) :
  Calls Tryz.prog 91 #[.agg #[.string s,.string t],.agg #[.string s',.string t']] w (Try w (.agg #[.string y,.string y']) k):=by
 refine Fx.door Tryz.func91 rfl (.nil w []) ?_;have HR:=hx;refine Fx.new [] 2 #[.string s,.string t] 32 [] [] fun dW=>?_;refine Fx.new [] 3 #[.string (s'),.string (t')] 32 [] [] fun dM=>?_;refine Fx.aL [] 4 32 [] [] fun dP=>?_;obtain ⟨⟨s4,t4⟩,k4,EX,HN⟩:=jk HR;refine Fx.call [3,4] 7 [] [] (fun W M=>aX1 EX _ (ht.later M.below)) ?_;refine Fx.aX iT [] 10 [] [] (fun W M=>vM (s:=s4) (t:=t4) _) HN fun _ HR=>?_;obtain ⟨hk,hv⟩:=HR;cases hk
 exact Fx.fV (cs:=#[.string s4,.string t4]) 2 dP [5] [(2,#[.string s4,.string t4])] (fun W M=>⟨M.below,.inl ⟨rfl,by cases hv rfl;rfl⟩⟩)
theorem Bl {s t s' t' y y':ByteArray} {k:Int} (hx:eX (nC ⟨s,t⟩ ⟨s',t'⟩) ⟨y,y'⟩ k) (w:World) (ht:iR.Pow w) :
  Calls Tryz.prog 48 #[.agg #[.string s,.string t],.agg #[.string s',.string t']] w (Try w (.agg #[.string y,.string y']) k):=by
 refine Fx.door Tryz.func48 rfl (.nil w []) ?_;have HR:=hx;refine Fx.new [] 2 #[.string s,.string t] 32 [] [] fun dW=>?_;refine Fx.new [] 3 #[.string (s'),.string (t')] 32 [] [] fun dM=>?_;refine Fx.aL [] 4 32 [] [] fun dP=>?_;obtain ⟨⟨s4,t4⟩,k4,EX,HN⟩:=jk HR;refine Fx.call [3,4] 7 [] [] (fun W M=>aX2 EX _ (ht.later M.below)) ?_;refine Fx.aX iT [] 10 [] [] (fun W M=>vM (s:=s4) (t:=t4) _) HN fun _ HR=>?_;obtain ⟨hk,hv⟩:=HR;cases hk
 exact Fx.fV (cs:=#[.string s4,.string t4]) 2 dP [5] [(2,#[.string s4,.string t4])] (fun W M=>⟨M.below,.inl ⟨rfl,by cases hv rfl;rfl⟩⟩)
theorem jH {n d:Int} {y y':ByteArray} {k:Int} (hx:eX (qV n d) ⟨y,y'⟩ k) (w:World) (ht:iR.Pow w) (n0: -9223372036854775808≤n:=by omega) (n1:n≤9223372036854775807:=by omega) (d0: -9223372036854775808≤d:=by omega) (d1:d≤9223372036854775807:=by omega) :
  Calls Tryz.prog 84 #[.int .i64 n,.int .i64 d] w (Try w (.agg #[.string y,.string y']) k):=by
 refine Fx.door Tryz.func84 rfl (.nil w []) ?_;have HR:=hx;refine Fx.aL [] 4 32 [] [] fun dW=>?_;obtain ⟨⟨s2,t2⟩,k2,EX,HN⟩:=jk HR;refine Fx.call [] 7 [] [] (fun W M=>cOf EX _ (ht.later M.below)) ?_;refine Fx.aX iT [] 10 [] [] (fun W M=>vM (s:=s2) (t:=t2) _) HN fun _ HR=>?_;obtain ⟨hk,hv⟩:=HR;cases hk
 exact Fx.fV (cs:=#[.string s2,.string t2]) 0 dW [3] [(0,#[.string s2,.string t2])] (fun W M=>⟨M.below,.inl ⟨rfl,by cases hv rfl;rfl⟩⟩)
theorem Ou {s t:ByteArray} {x y k:Int} (hx:eX (aW.iC ⟨s,t⟩) (x,y) k) (w:World) (ht:iR.Pow w) (he:whole.Er w) :
  Calls Tryz.prog 110 #[.agg #[.string s,.string t]] w (Try w (.agg #[.int .i64 x,.int .i64 y]) k):=by
 refine Fx.door Tryz.func110 rfl (.nil w []) ?_;have HR:=hx;refine Fx.new [] 1 #[.string s,.string t] 32 [] [] fun dW=>?_;refine Fx.aL [] 2 40 [] [] fun dM=>?_;obtain ⟨⟨x3,y3⟩,k3,EX,HN⟩:=jk HR;refine Fx.call [3] 4 [] [] (fun W M=>ao1 EX _ (ht.later M.below) (he.later M.below)) ?_;refine Fx.aX iT [] 7 [] [] (fun W M=>kR (x:=x3) (y:=y3) _) HN fun _ HR=>?_;obtain ⟨hk,hv⟩:=HR;cases hk
 exact Fx.fV (cs:=#[.int .i64 x3,.int .i64 y3]) 1 dM [4] [(1,#[.int .i64 x3,.int .i64 y3])] (fun W M=>⟨M.below,.inl ⟨rfl,by cases hv rfl;rfl⟩⟩)
def vg (a b:Fr):Bool × Int:=aZ false (uY a b) fun c=>wE (decide (0<c))
theorem UL {s t s' t':ByteArray} {v:Bool} {k:Int} (hx:eX (vg ⟨s,t⟩ ⟨s',t'⟩) v k) (w:World) :
  Calls Tryz.prog 123 #[.agg #[.string s,.string t],.agg #[.string s',.string t']] w (Try w (.bool v) k):=by
 unfold vg at hx;refine Fx.door Tryz.func123 rfl (.nil w []) ?_;have HR:=hx;refine Fx.new [] 2 #[.string s,.string t] 32 [] [] fun dW=>?_;refine Fx.new [] 3 #[.string (s'),.string (t')] 32 [] [] fun dM=>?_;obtain ⟨v3,k3,EX,HN⟩:=aG HR;refine Fx.call [3,4] 7 [] [] (fun W M=>aX3 EX _) ?_;refine Fx.aX iT [] 10 [] [] (fun W M=>Cb (v:=v3) _) HN fun _ HR=>?_;obtain ⟨hk,hv⟩:=HR;cases hk
 exact Fx.wF (v:=.bool (decide (0<v3))) [] [] (fun W M=>⟨M.below,.inl ⟨rfl,by cases hv rfl;rfl⟩⟩)
theorem JQ {n x y k:Int} (hx:eX (aW.ptE (n*1000000000000)) (x,y) k) (w:World) (h1: -1000≤n:=by omega) (h2:n≤1000:=by omega) :
  Calls Tryz.prog 52 #[.int .i64 n] w (Try w (.agg #[.int .i64 x,.int .i64 y]) k):=by
 have hw:IntKind.i64.wrap (n*1000000000000)=n*1000000000000:=by rw [IntKind.wrap_i64];omega
 refine Fx.door Tryz.func52 rfl (.nil w []) ?_;have HR:=hx;refine Fx.aL [] 2 40 [] [] fun dW=>?_;refine Fx.part 6 [] [(4,.int .i64 (IntKind.i64.wrap (n*1000000000000)))] [] ?_;refine Fx.zX (.int .i64 (n*1000000000000)) (Fx.wrap_i64 zo zo) ?_;obtain ⟨⟨x2,y2⟩,k2,EX,HN⟩:=jk HR;refine Fx.call [] 5 [] [] (fun W M=>aB8 EX _) ?_;refine Fx.aX iT [] 8 [] [] (fun W M=>kR (x:=x2) (y:=y2) _) HN fun _ HR=>?_;obtain ⟨hk,hv⟩:=HR;cases hk
 exact Fx.fV (cs:=#[.int .i64 x2,.int .i64 y2]) 0 dW [3] [(0,#[.int .i64 x2,.int .i64 y2])] (fun W M=>⟨M.below,.inl ⟨rfl,by cases hv rfl;rfl⟩⟩)
theorem JK {u v n d x y k:Int} (hx:eX (aW.sV (u,v) n d) (x,y) k) (w:World) :
  Calls Tryz.prog 51 #[.agg #[.int .i64 u,.int .i64 v],.int .i64 n,.int .i64 d] w (Try w (.agg #[.int .i64 x,.int .i64 y]) k):=by
 refine Fx.door Tryz.func51 rfl (.nil w []) ?_;have HR:=hx;refine Fx.new [] 3 #[.int .i64 u,.int .i64 v] 40 [] [] fun dW=>?_;refine Fx.aL [] 6 40 [] [] fun dM=>?_;obtain ⟨⟨x3,y3⟩,k3,EX,HN⟩:=jk HR;refine Fx.call [3] 10 [] [] (fun W M=>an9 EX _) ?_;refine Fx.aX iT [] 13 [] [] (fun W M=>kR (x:=x3) (y:=y3) _) HN fun _ HR=>?_;obtain ⟨hk,hv⟩:=HR;cases hk
 exact Fx.fV (cs:=#[.int .i64 x3,.int .i64 y3]) 1 dM [4] [(1,#[.int .i64 x3,.int .i64 y3])] (fun W M=>⟨M.below,.inl ⟨rfl,by cases hv rfl;rfl⟩⟩)
theorem Je (w:World):Calls Tryz.prog 47 #[] w (fun e w'=>e= .returned (.agg #[.func (.func 122) #[] #[],.func (.func 125) #[] #[]])∧Below w.heap.size w w'):=by
 go_enter Tryz.func47,Tryz.ntmps47
 go_wp2_with fail
 refine dH rfl rfl aJ Tryz.underlying93 rfl zk ?_;exact ⟨rfl,aD⟩
def Ao (t:Fr):(Int × Int) × Int :=
 aZ (0,0) (qV 216 24389) fun r=>aZ (0,0) (vg t r) fun c=>cond c
  (aZ (0,0) (aW.iC t) fun b=>aZ (0,0) (power.PX b.1 b.2 1 3) wE)
  (aZ (0,0) (qV 841 108) fun p=>aZ (0,0) (pI p t) fun m=>aZ (0,0) (qV 4 29) fun q=>aZ (0,0) (sK m q) fun s=>aZ (0,0) (aW.iC s) wE)
theorem KH {s t:ByteArray} {x y k:Int} (hx:eX (Ao ⟨s,t⟩) (x,y) k) (w:World) (ht:iR.Pow w) (he:whole.Er w) :
  Calls Tryz.prog 122 #[.agg #[.string s,.string t]] w (Try w (.agg #[.int .i64 x,.int .i64 y]) k):=by
 unfold Ao at hx;refine Fx.door Tryz.func122 rfl (.nil w []) ?_;have HR:=hx;refine Fx.new [] 1 #[.string s,.string t] 32 [] [] fun dW=>?_;refine Fx.aL [] 2 40 [] [] fun dM=>?_;refine Fx.draw [] (List.range 3) [] [] [] ?_;obtain ⟨⟨s3,t3⟩,_,EX,HN⟩:=aG HR;refine Fx.aX iT [3] 4 [(3,.agg #[.string s,.string t])] [] (fun W M=>jH (eX.of EX) _ (ht.later M.below)) HN fun _ HR=>?_;obtain ⟨v4,_,EX,HN⟩:=aG HR;refine Fx.aX iT [] 5 [] [] (fun W M=>UL (eX.of EX) _) HN fun _ HR=>?_;cases v4
 ·skip
  replace HR:=eX.cond_false HR;refine Fx.draw [2] [1,0,2,3,4,5,6] [] [] [] ?_;obtain ⟨⟨s5,t5⟩,_,EX,HN⟩:=aG HR;refine Fx.aX iT [3] 12 [(13,.agg #[.string s,.string t])] [] (fun W M=>jH (eX.of EX) _ (ht.later M.below)) HN fun _ HR=>?_;obtain ⟨⟨s6,t6⟩,_,EX,HN⟩:=aG HR;refine Fx.aX iT [] 14 [] [] (fun W M=>Nf (eX.of EX) _ (ht.later M.below)) HN fun _ HR=>?_;obtain ⟨⟨s7,t7⟩,_,EX,HN⟩:=aG HR;refine Fx.aX iT [] 15 [] [] (fun W M=>jH (eX.of EX) _ (ht.later M.below)) HN fun _ HR=>?_;obtain ⟨⟨s8,t8⟩,_,EX,HN⟩:=aG HR;refine Fx.aX iT [] 16 [] [] (fun W M=>UJ (eX.of EX) _ (ht.later M.below)) HN fun _ HR=>?_;obtain ⟨⟨x9,y9⟩,_,EX,HN⟩:=aG HR;refine Fx.aX iT [] 17 [] [] (fun W M=>Ou (eX.of EX) _ (ht.later M.below) (he.later M.below)) HN fun _ HR=>?_;obtain ⟨hk,hv⟩:=HR;cases hk
  exact Fx.fV (cs:=#[.int .i64 x9,.int .i64 y9]) 1 dM [4] [(1,#[.int .i64 x9,.int .i64 y9])] (fun W M=>⟨M.below,.inl ⟨rfl,by cases hv rfl;rfl⟩⟩)
 ·skip
  replace HR:=eX.cond_true HR;obtain ⟨⟨x10,y10⟩,_,EX,HN⟩:=aG HR;refine Fx.aX iT [1,3] 7 [] [] (fun W M=>Ou (eX.of EX) _ (ht.later M.below) (he.later M.below)) HN fun _ HR=>?_;obtain ⟨⟨x11,y11⟩,k11,EX,HN⟩:=aG HR;refine Fx.call [] 8 [] [] (fun W M=>aO0 EX _ (ht.later M.below) (he.later M.below)) ?_;refine Fx.aX iT [] 11 [] [] (fun W M=>kR (x:=x11) (y:=y11) _) HN fun _ HR=>?_;obtain ⟨hk,hv⟩:=HR;cases hk
  exact Fx.fV (cs:=#[.int .i64 x11,.int .i64 y11]) 1 dM [4] [(1,#[.int .i64 x11,.int .i64 y11])] (fun W M=>⟨M.below,.inl ⟨rfl,by cases hv rfl;rfl⟩⟩)
def uM (f:Fr):Fr × Int :=
 aZ Fr.no (qV 6 29) fun r=>aZ Fr.no (vg f r) fun c=>cond c
  (aZ Fr.no (av3 f 3) wE)
  (aZ Fr.no (qV 108 841) fun p=>aZ Fr.no (qV 4 29) fun q=>aZ Fr.no (zO f q) fun d=>aZ Fr.no (pI p d) wE)
theorem Xk {f r:Fr} {q:Rat} {k:Int} (h:vg f r=(true,k)) (hr:rd r=some q) (hq:0≤q):∃ p,rd f=some p∧0≤p:=by
 unfold vg uY at h;cases hf:rd f with
 | none =>
  rw [hf] at h;have:(false,(20:Int))=(true,k):=h;cases this
 | some p =>
  rw [hf,hr] at h;have h2:(decide (0<pJ p q),(0:Int))=(true,k):=h;have h3:decide (0<pJ p q)=true:=congrArg Prod.fst h2;refine ⟨p,rfl,?_⟩;have h4:=of_decide_eq_true h3;unfold pJ at h4;split at h4
  ·omega
  ·split at h4
   ·rename_i h5
    grind
   ·omega
theorem aK2 {s t:ByteArray} (h:qV 6 29=(⟨s,t⟩,0)):rd ⟨s,t⟩=some (6 / 29):=by
 have e:qV 6 29=(Fr.of ((6:Int) / (29:Int):Rat),0):=by decide+kernel
 rw [e] at h;have h2:Fr.of ((6:Int) / (29:Int):Rat)=⟨s,t⟩:=congrArg Prod.fst h;rw [← h2];exact Tw (by decide+kernel)
theorem Af {s t y y':ByteArray} {k:Int} (hx:eX (uM ⟨s,t⟩) ⟨y,y'⟩ k) (w:World) (ht:iR.Pow w) :
  Calls Tryz.prog 125 #[.agg #[.string s,.string t]] w (Try w (.agg #[.string y,.string y']) k):=by
 unfold uM at hx;refine Fx.door Tryz.func125 rfl (.nil w []) ?_;have HR:=hx;refine Fx.new [] 1 #[.string s,.string t] 32 [] [] fun dW=>?_;refine Fx.aL [] 2 32 [] [] fun dM=>?_;refine Fx.draw [] (List.range 3) [] [] [] ?_;obtain ⟨⟨s3,t3⟩,k3,EX,HN⟩:=aG HR;refine Fx.aX iT [3] 4 [(3,.agg #[.string s,.string t])] [] (fun W M=>jH (eX.of EX) _ (ht.later M.below)) HN fun h0 HR=>?_;subst h0;have E1:=EX;obtain ⟨v4,k4,EX,HN⟩:=aG HR;refine Fx.aX iT [] 5 [] [] (fun W M=>UL (eX.of EX) _) HN fun h0 HR=>?_;subst h0;have E2:=EX;cases v4
 ·skip
  replace HR:=eX.cond_false HR;refine Fx.draw [2] [1,0,2,3,4,5] [] [] [] ?_;obtain ⟨⟨s5,t5⟩,k5,EX,HN⟩:=aG HR;refine Fx.aX iT [3] 11 [(12,.agg #[.string s,.string t])] [] (fun W M=>jH (eX.of EX) _ (ht.later M.below)) HN fun h0 HR=>?_;subst h0;obtain ⟨⟨s6,t6⟩,k6,EX,HN⟩:=aG HR;refine Fx.aX iT [] 13 [] [] (fun W M=>jH (eX.of EX) _ (ht.later M.below)) HN fun h0 HR=>?_;subst h0;obtain ⟨⟨s7,t7⟩,k7,EX,HN⟩:=aG HR;refine Fx.aX iT [] 14 [] [] (fun W M=>ar0 (eX.of EX) _ (ht.later M.below)) HN fun h0 HR=>?_;subst h0;obtain ⟨⟨s8,t8⟩,k8,EX,HN⟩:=aG HR;refine Fx.aX iT [] 15 [] [] (fun W M=>Nf (eX.of EX) _ (ht.later M.below)) HN fun h0 HR=>?_;subst h0;obtain ⟨hk,hv⟩:=HR;cases hk
  exact Fx.fV (cs:=#[.string s8,.string t8]) 1 dM [4] [(1,#[.string s8,.string t8])] (fun W M=>⟨M.below,.inl ⟨rfl,by cases hv rfl;rfl⟩⟩)
 ·skip
  replace HR:=eX.cond_true HR;obtain ⟨⟨s9,t9⟩,k9,EX,HN⟩:=aG HR;refine Fx.call [1,3] 7 [] [] (fun W M=>aX0 EX _ (ht.later M.below) (Xk E2 (aK2 E1) (by decide+kernel))) ?_;refine Fx.aX iT [] 10 [] [] (fun W M=>vM (s:=s9) (t:=t9) _) HN fun h0 HR=>?_;subst h0;obtain ⟨hk,hv⟩:=HR;cases hk
  exact Fx.fV (cs:=#[.string s9,.string t9]) 1 dM [4] [(1,#[.string s9,.string t9])] (fun W M=>⟨M.below,.inl ⟨rfl,by cases hv rfl;rfl⟩⟩)
def z3:(Int × Int) × (Int × Int) × (Int × Int):=((0,0),(0,0),(0,0))
def t0:light.gK:=⟨Fr.no,Fr.no,Fr.no⟩
def JH (f:Fr):Fr × Int:=aZ Fr.no (qV 128 1) fun p=>aZ Fr.no (sK f p) fun s=>aZ Fr.no (qV 256 1) fun q=>aZ Fr.no (nC s q) wE
def encI (t:light.gK):light.gK × Int:=aZ t0 (qV 100 1) fun h=>aZ t0 (nC t.x h) fun a=>aZ t0 (JH t.y) fun b=>aZ t0 (JH t.z) fun c=>wE ⟨a,b,c⟩
theorem Tm {s t y y':ByteArray} {k:Int} (hx:eX (JH ⟨s,t⟩) ⟨y,y'⟩ k) (w:World) (ht:iR.Pow w) :
  Calls Tryz.prog 82 #[.agg #[.string s,.string t]] w (Try w (.agg #[.string y,.string y']) k):=by
 unfold JH at hx;refine Fx.door Tryz.func82 rfl (.nil w []) ?_;have HR:=hx;refine Fx.new [] 1 #[.string s,.string t] 32 [] [] fun dW=>?_;refine Fx.aL [] 2 32 [] [] fun dM=>?_;refine Fx.draw [] (List.range 6) [] [] [] ?_;obtain ⟨⟨s3,t3⟩,_,EX,HN⟩:=aG HR;refine Fx.aX iT [3] 4 [(3,.agg #[.string s,.string t])] [] (fun W M=>jH (eX.of EX) _ (ht.later M.below)) HN fun _ HR=>?_;obtain ⟨⟨s4,t4⟩,_,EX,HN⟩:=aG HR;refine Fx.aX iT [] 5 [] [] (fun W M=>UJ (eX.of EX) _ (ht.later M.below)) HN fun _ HR=>?_;obtain ⟨⟨s5,t5⟩,_,EX,HN⟩:=aG HR;refine Fx.aX iT [] 6 [] [] (fun W M=>jH (eX.of EX) _ (ht.later M.below)) HN fun _ HR=>?_;obtain ⟨⟨s6,t6⟩,_,EX,HN⟩:=aG HR;refine Fx.aX iT [] 7 [] [] (fun W M=>Bl (eX.of EX) _ (ht.later M.below)) HN fun _ HR=>?_;obtain ⟨hk,hv⟩:=HR;cases hk
 exact Fx.fV (cs:=#[.string s6,.string t6]) 1 dM [4] [(1,#[.string s6,.string t6])] (fun W M=>⟨M.below,.inl ⟨rfl,by cases hv rfl;rfl⟩⟩)
theorem aA5 {a1 a2 a3 a4 a5 a6 y1 y2 y3 y4 y5 y6:ByteArray} {k:Int} {p:Nat} (hx:eX (encI ⟨⟨a1,a2⟩,⟨a3,a4⟩,⟨a5,a6⟩⟩) ⟨⟨y1,y2⟩,⟨y3,y4⟩,⟨y5,y6⟩⟩ k) (w:World)
  (hp:ah w p #[.string a1,.string a2,.string a3,.string a4,.string a5,.string a6] 34) (ht:iR.Pow w) :
  Calls Tryz.prog 81 #[.pointer (some ⟨p,0,none⟩)] w (Try w (.agg #[.string y1,.string y2,.string y3,.string y4,.string y5,.string y6]) k):=by
 unfold encI at hx;refine Fx.door Tryz.func81 rfl (.ro hp (.nil w [])) ?_;have HR:=hx;refine Fx.aL [] 1 34 [] [] fun dW=>?_;refine Fx.draw [] [0,1,4,5,6,8,9,10,2,3,7,11,12,13] [] [(2,.func (.func 82) #[] #[])] [] ?_;obtain ⟨⟨s2,t2⟩,_,EX,HN⟩:=aG HR;refine Fx.aX iT [3,3,3] 5 [(4,.agg #[.string a1,.string a2]),(7,.func (.func 82) #[] #[]),(9,.agg #[.string a3,.string a4]),(11,.func (.func 82) #[] #[]),(13,.agg #[.string a5,.string a6])] [] (fun W M=>jH (eX.of EX) _ (ht.later M.below)) HN fun _ HR=>?_;obtain ⟨⟨s3,t3⟩,_,EX,HN⟩:=aG HR;refine Fx.aX iT [] 6 [] [] (fun W M=>Bl (eX.of EX) _ (ht.later M.below)) HN fun _ HR=>?_;obtain ⟨⟨s4,t4⟩,_,EX,HN⟩:=aG HR;refine Fx.aX iT [] 10 [] [] (fun W M=>Tm (eX.of EX) _ (ht.later M.below)) HN fun _ HR=>?_;obtain ⟨⟨s5,t5⟩,_,EX,HN⟩:=aG HR
 refine Fx.aX iT [] 14 [] [] (fun W M=>Tm (eX.of EX) _ (ht.later M.below)) HN fun _ HR=>?_;obtain ⟨hk,hv⟩:=HR;cases hk
 exact Fx.fV (cs:=#[.string s3,.string t3,.string s4,.string t4,.string s5,.string t5]) 1 dW [4] [(1,#[.string s3,.string t3,.string s4,.string t4,.string s5,.string t5])] (fun W M=>⟨M.below,.inl ⟨rfl,by cases hv rfl;rfl⟩⟩)
def dcE (x w:Fr):(Int × Int) × Int:=aZ (0,0) (nC x w) fun t=>aZ (0,0) (Ao t) wE
theorem Pw {a1 a2 a3 a4 a5 a6 b1 b2 b3 b4 b5 b6:ByteArray} {x y k:Int} {p q:Nat} (hx:eX (dcE ⟨a1,a2⟩ ⟨b1,b2⟩) (x,y) k) (w:World)
  (hp:ah w p #[.string a1,.string a2,.string a3,.string a4,.string a5,.string a6] 34) (hq:ah w q #[.string b1,.string b2,.string b3,.string b4,.string b5,.string b6] 34) (ht:iR.Pow w) (he:whole.Er w) :
  Calls Tryz.prog 46 #[.int .i64 0,.pointer (some ⟨p,0,none⟩),.pointer (some ⟨q,0,none⟩)] w (Try w (.agg #[.int .i64 x,.int .i64 y]) k):=by
 unfold dcE at hx;refine Fx.door Tryz.func46 rfl (.ro hp (.ro hq (.nil w []))) ?_;have HR:=hx;refine Fx.aL [] 4 40 [] [] fun dW=>?_;refine Fx.draw [] [2,3,4,5,6,7,0,1,8,9,10] [] [] [] ?_;refine Fx.call [3,4] 5 [(9,.agg #[.string a1,.string a2]),(12,.agg #[.string b1,.string b2])] [] (fun W M=>Je _) ?_;obtain ⟨⟨s3,t3⟩,_,EX,HN⟩:=aG HR;refine Fx.aX iT [] 13 [(6,.func (.func 122) #[] #[])] [] (fun W M=>Bl (eX.of EX) _ (ht.later M.below)) HN fun _ HR=>?_;obtain ⟨⟨x4,y4⟩,_,EX,HN⟩:=aG HR;refine Fx.aX iT [] 14 [] [] (fun W M=>KH (eX.of EX) _ (ht.later M.below) (he.later M.below)) HN fun _ HR=>?_;obtain ⟨hk,hv⟩:=HR;cases hk
 exact Fx.fV (cs:=#[.int .i64 x4,.int .i64 y4]) 2 dW [5] [(2,#[.int .i64 x4,.int .i64 y4])] (fun W M=>⟨M.below,.inl ⟨rfl,by cases hv rfl;rfl⟩⟩)
theorem Pv {a1 a2 a3 a4 a5 a6 b1 b2 b3 b4 b5 b6:ByteArray} {x y k:Int} {p q:Nat} (hx:eX (dcE ⟨a3,a4⟩ ⟨b3,b4⟩) (x,y) k) (w:World)
  (hp:ah w p #[.string a1,.string a2,.string a3,.string a4,.string a5,.string a6] 34) (hq:ah w q #[.string b1,.string b2,.string b3,.string b4,.string b5,.string b6] 34) (ht:iR.Pow w) (he:whole.Er w) :
  Calls Tryz.prog 46 #[.int .i64 1,.pointer (some ⟨p,0,none⟩),.pointer (some ⟨q,0,none⟩)] w (Try w (.agg #[.int .i64 x,.int .i64 y]) k):=by
 unfold dcE at hx;refine Fx.door Tryz.func46 rfl (.ro hp (.ro hq (.nil w []))) ?_;have HR:=hx;refine Fx.aL [] 4 40 [] [] fun dW=>?_;refine Fx.draw [] [2,3,4,5,6,7,0,1,8,9,10] [] [] [] ?_;refine Fx.call [3,4] 5 [(9,.agg #[.string a3,.string a4]),(12,.agg #[.string b3,.string b4])] [] (fun W M=>Je _) ?_;obtain ⟨⟨s3,t3⟩,_,EX,HN⟩:=aG HR;refine Fx.aX iT [] 13 [(6,.func (.func 122) #[] #[])] [] (fun W M=>Bl (eX.of EX) _ (ht.later M.below)) HN fun _ HR=>?_;obtain ⟨⟨x4,y4⟩,_,EX,HN⟩:=aG HR;refine Fx.aX iT [] 14 [] [] (fun W M=>KH (eX.of EX) _ (ht.later M.below) (he.later M.below)) HN fun _ HR=>?_;obtain ⟨hk,hv⟩:=HR;cases hk
 exact Fx.fV (cs:=#[.int .i64 x4,.int .i64 y4]) 2 dW [5] [(2,#[.int .i64 x4,.int .i64 y4])] (fun W M=>⟨M.below,.inl ⟨rfl,by cases hv rfl;rfl⟩⟩)
theorem Pt {a1 a2 a3 a4 a5 a6 b1 b2 b3 b4 b5 b6:ByteArray} {x y k:Int} {p q:Nat} (hx:eX (dcE ⟨a5,a6⟩ ⟨b5,b6⟩) (x,y) k) (w:World)
  (hp:ah w p #[.string a1,.string a2,.string a3,.string a4,.string a5,.string a6] 34) (hq:ah w q #[.string b1,.string b2,.string b3,.string b4,.string b5,.string b6] 34) (ht:iR.Pow w) (he:whole.Er w) :
  Calls Tryz.prog 46 #[.int .i64 2,.pointer (some ⟨p,0,none⟩),.pointer (some ⟨q,0,none⟩)] w (Try w (.agg #[.int .i64 x,.int .i64 y]) k):=by
 unfold dcE at hx;refine Fx.door Tryz.func46 rfl (.ro hp (.ro hq (.nil w []))) ?_;have HR:=hx;refine Fx.aL [] 4 40 [] [] fun dW=>?_;refine Fx.draw [] [2,3,4,5,6,7,0,1,8,9,10] [] [] [] ?_;refine Fx.call [3,4] 5 [(9,.agg #[.string a5,.string a6]),(12,.agg #[.string b5,.string b6])] [] (fun W M=>Je _) ?_;obtain ⟨⟨s3,t3⟩,_,EX,HN⟩:=aG HR;refine Fx.aX iT [] 13 [(6,.func (.func 122) #[] #[])] [] (fun W M=>Bl (eX.of EX) _ (ht.later M.below)) HN fun _ HR=>?_;obtain ⟨⟨x4,y4⟩,_,EX,HN⟩:=aG HR;refine Fx.aX iT [] 14 [] [] (fun W M=>KH (eX.of EX) _ (ht.later M.below) (he.later M.below)) HN fun _ HR=>?_;obtain ⟨hk,hv⟩:=HR;cases hk
 exact Fx.fV (cs:=#[.int .i64 x4,.int .i64 y4]) 2 dW [5] [(2,#[.int .i64 x4,.int .i64 y4])] (fun W M=>⟨M.below,.inl ⟨rfl,by cases hv rfl;rfl⟩⟩)
def Ba (t w:light.gK):((Int × Int) × (Int × Int) × (Int × Int)) × Int :=
 aZ z3 (dcE t.x w.x) fun fx=>aZ z3 (dcE t.y w.y) fun fy=>aZ z3 (dcE t.z w.z) fun fz =>
 aZ z3 (aW.sV fy 116 1) fun s=>aZ z3 (aW.ptE (16*1000000000000)) fun p=>aZ z3 (aW.uh s p) fun l =>
 aZ z3 (aW.uh fx fy) fun d=>aZ z3 (aW.sV d 500 1) fun a=>aZ z3 (aW.uh fy fz) fun g=>aZ z3 (aW.sV g 200 1) fun b=>wE (l,a,b)
theorem Ym {a1 a2 a3 a4 a5 a6 b1 b2 b3 b4 b5 b6:ByteArray} {x1 x2 x3 x4 x5 x6 k:Int} {p q:Nat} (hx:eX (Ba ⟨⟨a1,a2⟩,⟨a3,a4⟩,⟨a5,a6⟩⟩ ⟨⟨b1,b2⟩,⟨b3,b4⟩,⟨b5,b6⟩⟩) ((x1,x2),(x3,x4),(x5,x6)) k) (w:World)
  (hp:ah w p #[.string a1,.string a2,.string a3,.string a4,.string a5,.string a6] 34) (hq:ah w q #[.string b1,.string b2,.string b3,.string b4,.string b5,.string b6] 34) (ht:iR.Pow w) (he:whole.Er w) :
  Calls Tryz.prog 45 #[.pointer (some ⟨p,0,none⟩),.pointer (some ⟨q,0,none⟩)] w (Try w (.agg #[.int .i64 x1,.int .i64 x2,.int .i64 x3,.int .i64 x4,.int .i64 x5,.int .i64 x6]) k):=by
 unfold Ba at hx;refine Fx.door Tryz.func45 rfl (.ro hp (.ro hq (.nil w []))) ?_;have HR:=hx;refine Fx.aL [] 2 42 [] [] fun dW=>?_;obtain ⟨⟨x2,y2⟩,_,EX,HN⟩:=aG HR;refine Fx.aX iT [] 9 [(3,.func (.func 46) #[] #[.pointer (some ⟨p,0,none⟩),.pointer (some ⟨q,0,none⟩)])] [] (fun W M=>Pw (eX.of EX) _ (M.box (b:=p) (cs:=#[.string a1,.string a2,.string a3,.string a4,.string a5,.string a6]) 0) (M.box (b:=q) (cs:=#[.string b1,.string b2,.string b3,.string b4,.string b5,.string b6]) 1) (ht.later M.below) (he.later M.below)) HN fun _ HR=>?_;obtain ⟨⟨x3,y3⟩,_,EX,HN⟩:=aG HR
 refine Fx.aX iT [] 11 [] [] (fun W M=>Pv (eX.of EX) _ (M.box (b:=p) (cs:=#[.string a1,.string a2,.string a3,.string a4,.string a5,.string a6]) 0) (M.box (b:=q) (cs:=#[.string b1,.string b2,.string b3,.string b4,.string b5,.string b6]) 1) (ht.later M.below) (he.later M.below)) HN fun _ HR=>?_;obtain ⟨⟨x4,y4⟩,_,EX,HN⟩:=aG HR;refine Fx.aX iT [] 13 [] [] (fun W M=>Pt (eX.of EX) _ (M.box (b:=p) (cs:=#[.string a1,.string a2,.string a3,.string a4,.string a5,.string a6]) 0) (M.box (b:=q) (cs:=#[.string b1,.string b2,.string b3,.string b4,.string b5,.string b6]) 1) (ht.later M.below) (he.later M.below)) HN fun _ HR=>?_;refine Fx.aL [] 4 40 [] [] fun Yc=>?_;refine Fx.aL [] 5 40 [] [] fun bz6=>?_;refine Fx.aL [] 6 40 [] [] fun bz7=>?_
 refine Fx.draw [6,7,8] [0,7,8,14,15,1,2,3,4,5,6,9,10,11,12,13,16,17,18,19,20,21,22] [] [] [(3,#[.int .i64 x2,.int .i64 y2]),(4,#[.int .i64 x3,.int .i64 y3]),(5,#[.int .i64 x4,.int .i64 y4])] ?_;obtain ⟨⟨x8,y8⟩,_,EX,HN⟩:=aG HR;refine Fx.aX iT [7,6,7,7,8] 15 [(21,.agg #[.int .i64 x2,.int .i64 y2]),(22,.agg #[.int .i64 x3,.int .i64 y3]),(28,.agg #[.int .i64 x3,.int .i64 y3]),(29,.agg #[.int .i64 x4,.int .i64 y4])] [] (fun W M=>JK (eX.of EX) _) HN fun _ HR=>?_;obtain ⟨⟨x9,y9⟩,_,EX,HN⟩:=aG HR;refine Fx.aX iT [] 16 [] [] (fun W M=>JQ (eX.of EX) _) HN fun _ HR=>?_;obtain ⟨⟨x10,y10⟩,k10,EX,HN⟩:=aG HR;refine Fx.call [] 17 [] [] (fun W M=>ac7 EX _) ?_;refine Fx.aX iT [] 20 [] [] (fun W M=>kR (x:=x10) (y:=y10) _) HN fun _ HR=>?_;obtain ⟨⟨x12,y12⟩,k12,EX,HN⟩:=aG HR;refine Fx.call [] 23 [] [] (fun W M=>ac7 EX _) ?_
 refine Fx.aX iT [] 26 [] [] (fun W M=>kR (x:=x12) (y:=y12) _) HN fun _ HR=>?_;obtain ⟨⟨x14,y14⟩,_,EX,HN⟩:=aG HR;refine Fx.aX iT [] 27 [] [] (fun W M=>JK (eX.of EX) _) HN fun _ HR=>?_;obtain ⟨⟨x15,y15⟩,k15,EX,HN⟩:=aG HR;refine Fx.call [] 30 [] [] (fun W M=>ac7 EX _) ?_;refine Fx.aX iT [] 33 [] [] (fun W M=>kR (x:=x15) (y:=y15) _) HN fun _ HR=>?_;obtain ⟨⟨x17,y17⟩,_,EX,HN⟩:=aG HR;refine Fx.aX iT [] 34 [] [] (fun W M=>JK (eX.of EX) _) HN fun _ HR=>?_;obtain ⟨hk,hv⟩:=HR;cases hk
 exact Fx.fV (cs:=#[.int .i64 x10,.int .i64 y10,.int .i64 x14,.int .i64 y14,.int .i64 x17,.int .i64 y17]) 2 dW [5] [(2,#[.int .i64 x10,.int .i64 y10,.int .i64 x14,.int .i64 y14,.int .i64 x17,.int .i64 y17])] (fun W M=>⟨M.below,.inl ⟨rfl,by cases hv rfl;rfl⟩⟩)
end Go.Proofs.lab
namespace Go.Proofs
open Go Go.RowKit Go.SW Go.Num Go.Mem Go.fF
theorem ac6 {x y u v a b k:Int} {q:Nat} (hx:power.ak0 [(x,y),(u,v)]=((a,b),k)) (w:World) (hq:ah w q #[.int .i64 x,.int .i64 y,.int .i64 u,.int .i64 v] 40) (ht:iR.Pow w) (he:whole.Er w):Calls Tryz.prog 71 #[.slice (some ⟨q,0,none⟩) 2 2] w (fun e w'=>e= .returned (.tuple #[.agg #[.int .i64 a,.int .i64 b],.int .i64 k])∧Below w.heap.size w w'):=by
 have h:=power.ap3 _ _ [(x,y),(u,v)] w (zK.two hq) ht he;rw [hx] at h;exact h
end Go.Proofs
namespace Go.Proofs.lab
open Go Go.RowKit Go.SW Go.Num Go.Mem Go.Proofs Go.fF Go.Fx
def Uy (t w:light.gK):light.gK × Int :=
 aZ t0 (qV 16 1) fun h=>aZ t0 (sK t.x h) fun s=>aZ t0 (qV 116 1) fun d=>aZ t0 (nC s d) fun y =>
 aZ t0 (qV 500 1) fun d1=>aZ t0 (nC t.y d1) fun a=>aZ t0 (sK y a) fun x =>
 aZ t0 (qV 200 1) fun d2=>aZ t0 (nC t.z d2) fun b=>aZ t0 (zO y b) fun z =>
 aZ t0 (uM x) fun p=>aZ t0 (pI p w.x) fun o1=>aZ t0 (uM y) fun q=>aZ t0 (pI q w.y) fun o2=>aZ t0 (uM z) fun r=>aZ t0 (pI r w.z) fun o3 =>
 aZ t0 (gW o1) fun c1=>if c1<0 then (t0,9) else aZ t0 (gW o2) fun c2=>if c2<0 then (t0,9) else aZ t0 (gW o3) fun c3=>if c3<0 then (t0,9) else wE ⟨o1,o2,o3⟩
theorem QZ {a1 a2 a3 a4 a5 a6 b1 b2 b3 b4 b5 b6 y1 y2 y3 y4 y5 y6:ByteArray} {k:Int} {p q:Nat} (hx:eX (Uy ⟨⟨a1,a2⟩,⟨a3,a4⟩,⟨a5,a6⟩⟩ ⟨⟨b1,b2⟩,⟨b3,b4⟩,⟨b5,b6⟩⟩) ⟨⟨y1,y2⟩,⟨y3,y4⟩,⟨y5,y6⟩⟩ k) (w:World)
  (hp:ah w p #[.string a1,.string a2,.string a3,.string a4,.string a5,.string a6] 34) (hq:ah w q #[.string b1,.string b2,.string b3,.string b4,.string b5,.string b6] 34) (ht:iR.Pow w) :
  Calls Tryz.prog 102 #[.pointer (some ⟨p,0,none⟩),.pointer (some ⟨q,0,none⟩)] w (Try w (.agg #[.string y1,.string y2,.string y3,.string y4,.string y5,.string y6]) k):=by
 unfold Uy at hx;refine Fx.door Tryz.func102 rfl (.ro hp (.ro hq (.nil w []))) ?_;have HR:=hx;refine Fx.aL [] 2 34 [] [] fun dW=>?_;refine Fx.draw [] (List.range 8) [] [] [] ?_;obtain ⟨⟨s2,t2⟩,_,EX,HN⟩:=aG HR;refine Fx.aX iT [3] 13 [(12,.agg #[.string a1,.string a2])] [] (fun W M=>jH (eX.of EX) _ (ht.later M.below)) HN fun _ HR=>?_;obtain ⟨⟨s3,t3⟩,_,EX,HN⟩:=aG HR;refine Fx.aX iT [] 14 [] [] (fun W M=>UJ (eX.of EX) _ (ht.later M.below)) HN fun _ HR=>?_;obtain ⟨⟨s4,t4⟩,_,EX,HN⟩:=aG HR;refine Fx.aX iT [] 15 [] [] (fun W M=>jH (eX.of EX) _ (ht.later M.below)) HN fun _ HR=>?_;obtain ⟨⟨s5,t5⟩,_,EX,HN⟩:=aG HR;refine Fx.aX iT [] 16 [] [] (fun W M=>Bl (eX.of EX) _ (ht.later M.below)) HN fun _ HR=>?_;refine Fx.sS [] 3 32 [] [] fun bz6=>?_;refine Fx.draw [6] (List.range 8) [] [] [(3,#[.string s5,.string t5])] ?_
 obtain ⟨⟨s7,t7⟩,_,EX,HN⟩:=aG HR;refine Fx.aX iT [6,3] 20 [(17,.agg #[.string s5,.string t5]),(19,.agg #[.string a3,.string a4])] [] (fun W M=>jH (eX.of EX) _ (ht.later M.below)) HN fun _ HR=>?_;obtain ⟨⟨s8,t8⟩,_,EX,HN⟩:=aG HR;refine Fx.aX iT [] 21 [] [] (fun W M=>Bl (eX.of EX) _ (ht.later M.below)) HN fun _ HR=>?_;obtain ⟨⟨s9,t9⟩,_,EX,HN⟩:=aG HR;refine Fx.aX iT [] 22 [] [] (fun W M=>UJ (eX.of EX) _ (ht.later M.below)) HN fun _ HR=>?_;refine Fx.sS [] 4 32 [] [] fun ao3=>?_;refine Fx.draw [7] (List.range 8) [] [] [(4,#[.string s9,.string t9])] ?_;obtain ⟨⟨s11,t11⟩,_,EX,HN⟩:=aG HR;refine Fx.aX iT [6,3] 26 [(23,.agg #[.string s5,.string t5]),(25,.agg #[.string a5,.string a6])] [] (fun W M=>jH (eX.of EX) _ (ht.later M.below)) HN fun _ HR=>?_;obtain ⟨⟨s12,t12⟩,_,EX,HN⟩:=aG HR
 refine Fx.aX iT [] 27 [] [] (fun W M=>Bl (eX.of EX) _ (ht.later M.below)) HN fun _ HR=>?_;obtain ⟨⟨s13,t13⟩,_,EX,HN⟩:=aG HR;refine Fx.aX iT [] 28 [] [] (fun W M=>ar0 (eX.of EX) _ (ht.later M.below)) HN fun _ HR=>?_;refine Fx.sS [] 5 32 [] [] fun aX5=>?_;refine Fx.aL [8] 6 34 [] [(5,#[.string s13,.string t13])] fun Xe=>?_;refine Fx.aL [7,6,8,1] 8 32 [(32,.agg #[.string s9,.string t9,.string s5,.string t5,.string s13,.string t13]),(33,.int .i64 0),(35,.int .i64 0),(36,.agg #[.string s9,.string t9])] [] fun bn1=>?_;refine Fx.draw [10] [0,3,5,6,7,1,2,4,8,9,10] [] [(7,.int .i64 0)] [(7,#[.string s9,.string t9])] ?_;refine Fx.call [10,4] 38 [(37,.int .i64 0),(40,.agg #[.string s9,.string t9]),(44,.agg #[.string b1,.string b2])] [] (fun W M=>Je _) ?_;obtain ⟨⟨s18,t18⟩,_,EX,HN⟩:=aG HR
 refine Fx.aX iT [] 41 [] [] (fun W M=>Af (eX.of EX) _ (ht.later M.below)) HN fun _ HR=>?_;obtain ⟨⟨s19,t19⟩,_,EX,HN⟩:=aG HR;refine Fx.aX iT [] 45 [] [] (fun W M=>Nf (eX.of EX) _ (ht.later M.below)) HN fun _ HR=>?_;refine Fx.aL [9,1] 8 32 [(33,.int .i64 1),(35,.int .i64 1),(36,.agg #[.string s5,.string t5])] [(6,#[.string s19,.string t19,.string ⟨#[]⟩,.string ⟨#[]⟩,.string ⟨#[]⟩,.string ⟨#[]⟩])] fun bn0=>?_;refine Fx.draw [11] [0,3,5,6,7,1,2,4,8,9,10] [] [(7,.int .i64 1)] [(8,#[.string s5,.string t5])] ?_;refine Fx.call [11,4] 38 [(37,.int .i64 1),(40,.agg #[.string s5,.string t5]),(44,.agg #[.string b3,.string b4])] [] (fun W M=>Je _) ?_;obtain ⟨⟨s22,t22⟩,_,EX,HN⟩:=aG HR;refine Fx.aX iT [] 41 [] [] (fun W M=>Af (eX.of EX) _ (ht.later M.below)) HN fun _ HR=>?_;obtain ⟨⟨s23,t23⟩,_,EX,HN⟩:=aG HR
 refine Fx.aX iT [] 45 [] [] (fun W M=>Nf (eX.of EX) _ (ht.later M.below)) HN fun _ HR=>?_;refine Fx.aL [9,1] 8 32 [(33,.int .i64 2),(35,.int .i64 2),(36,.agg #[.string s13,.string t13])] [(6,#[.string s19,.string t19,.string s23,.string t23,.string ⟨#[]⟩,.string ⟨#[]⟩])] fun bm9=>?_;refine Fx.draw [12] [0,3,5,6,7,1,2,4,8,9,10] [] [(7,.int .i64 2)] [(9,#[.string s13,.string t13])] ?_;refine Fx.call [12,4] 38 [(37,.int .i64 2),(40,.agg #[.string s13,.string t13]),(44,.agg #[.string b5,.string b6])] [] (fun W M=>Je _) ?_;obtain ⟨⟨s26,t26⟩,_,EX,HN⟩:=aG HR;refine Fx.aX iT [] 41 [] [] (fun W M=>Af (eX.of EX) _ (ht.later M.below)) HN fun _ HR=>?_;obtain ⟨⟨s27,t27⟩,_,EX,HN⟩:=aG HR;refine Fx.aX iT [] 45 [] [] (fun W M=>Nf (eX.of EX) _ (ht.later M.below)) HN fun _ HR=>?_
 refine Fx.aL [9,2,9,1] 10 32 [(33,.int .i64 3),(48,.agg #[.string s19,.string t19,.string s23,.string t23,.string s27,.string t27]),(49,.int .i64 0),(51,.agg #[.string s19,.string t19])] [(6,#[.string s19,.string t19,.string s23,.string t23,.string s27,.string t27])] fun bm8=>?_;obtain ⟨v29,k29,EX,HN⟩:=aG HR;refine Fx.call [13,13] 53 [] [(10,#[.string s19,.string t19])] (fun W M=>ac5 EX _) ?_;refine Fx.aX iT [] 56 [] [] (fun W M=>Cb (v:=v29) _) HN fun _ HR=>?_;refine Fx.part 1 [] [(57,.bool (decide (v29<0)))] [] ?_;refine Fx.splitB (fun hf1=>?_) (fun hf1=>?_)
 ·skip
  replace HR:=eX.pos HR (of_decide_eq_true hf1);refine Fx.panics (v:=.iface 43 (.int .i64 9)) 5 [1] [] (fun W M=>?_);have HB:=M.below;obtain ⟨hk, -⟩:=HR;cases hk;exact ⟨HB,.inr ⟨by decide,rfl⟩⟩
 ·skip
  replace HR:=eX.neg HR (of_decide_eq_false hf1);refine Fx.aL [2,1] 10 32 [(49,.int .i64 1),(51,.agg #[.string s23,.string t23])] [] fun bm7=>?_;obtain ⟨v32,k32,EX,HN⟩:=aG HR;refine Fx.call [14,14] 53 [] [(11,#[.string s23,.string t23])] (fun W M=>ac5 EX _) ?_;refine Fx.aX iT [] 56 [] [] (fun W M=>Cb (v:=v32) _) HN fun _ HR=>?_;refine Fx.part 1 [] [(57,.bool (decide (v32<0)))] [] ?_;refine Fx.splitB (fun hf2=>?_) (fun hf2=>?_)
  ·skip
   replace HR:=eX.pos HR (of_decide_eq_true hf2);refine Fx.panics (v:=.iface 43 (.int .i64 9)) 5 [1] [] (fun W M=>?_);have HB:=M.below;obtain ⟨hk, -⟩:=HR;cases hk;exact ⟨HB,.inr ⟨by decide,rfl⟩⟩
  ·skip
   replace HR:=eX.neg HR (of_decide_eq_false hf2);refine Fx.aL [2,1] 10 32 [(49,.int .i64 2),(51,.agg #[.string s27,.string t27])] [] fun bm6=>?_;obtain ⟨v35,k35,EX,HN⟩:=aG HR;refine Fx.call [15,15] 53 [] [(12,#[.string s27,.string t27])] (fun W M=>ac5 EX _) ?_;refine Fx.aX iT [] 56 [] [] (fun W M=>Cb (v:=v35) _) HN fun _ HR=>?_;refine Fx.part 1 [] [(57,.bool (decide (v35<0)))] [] ?_;refine Fx.splitB (fun hf3=>?_) (fun hf3=>?_)
   ·skip
    replace HR:=eX.pos HR (of_decide_eq_true hf3);refine Fx.panics (v:=.iface 43 (.int .i64 9)) 5 [1] [] (fun W M=>?_);have HB:=M.below;obtain ⟨hk, -⟩:=HR;cases hk;exact ⟨HB,.inr ⟨by decide,rfl⟩⟩
   ·skip
    replace HR:=eX.neg HR (of_decide_eq_false hf3);obtain ⟨hk,hv⟩:=HR;cases hk
    exact Fx.fV (cs:=#[.string s19,.string t19,.string s23,.string t23,.string s27,.string t27]) 2 dW [2,2,9,5] [(2,#[.string s19,.string t19,.string s23,.string t23,.string s27,.string t27])] (fun W M=>⟨M.below,.inl ⟨rfl,by cases hv rfl;rfl⟩⟩)
def TP (b c:Int × Int):(Int × Int) × Int:=aZ (0,0) (aW.Rf b c) fun q=>aZ (0,0) (aW.Rm q (-1000000000000) 1000000000000) wE
theorem JU {u v c d x y k:Int} {p:Nat} (hx:eX (TP (u,v) (c,d)) (x,y) k) (w:World) (hp:ah w p #[.int .i64 c,.int .i64 d] 40) :
  Calls Tryz.prog 72 #[.agg #[.int .i64 u,.int .i64 v],.pointer (some ⟨p,0,none⟩)] w (Try w (.agg #[.int .i64 x,.int .i64 y]) k):=by
 unfold TP at hx;refine Fx.door Tryz.func72 rfl (.ro hp (.nil w [])) ?_;have HR:=hx;refine Fx.new [] 2 #[.int .i64 u,.int .i64 v] 40 [] [] fun dW=>?_;refine Fx.aL [] 3 40 [] [] fun dM=>?_;obtain ⟨⟨x3,y3⟩,k3,EX,HN⟩:=aG HR;refine Fx.call [4,3] 6 [] [] (fun W M=>aO1 EX _) ?_;refine Fx.aX iT [] 9 [] [] (fun W M=>kR (x:=x3) (y:=y3) _) HN fun _ HR=>?_;obtain ⟨⟨x5,y5⟩,k5,EX,HN⟩:=aG HR;refine Fx.call [] 10 [] [] (fun W M=>ao0 EX _) ?_;refine Fx.aX iT [] 13 [] [] (fun W M=>kR (x:=x5) (y:=y5) _) HN fun _ HR=>?_;obtain ⟨hk,hv⟩:=HR;cases hk
 exact Fx.fV (cs:=#[.int .i64 x5,.int .i64 y5]) 2 dM [5] [(2,#[.int .i64 x5,.int .i64 y5])] (fun W M=>⟨M.below,.inl ⟨rfl,by cases hv rfl;rfl⟩⟩)
end Go.Proofs.lab
namespace Go.Proofs.lab
open Go Go.RowKit Go.SW Go.Num Go.Mem Go.Proofs Go.Dec Go.fF
theorem Aq (er:Int) (w:World):(Instr.typeAssert (.iface 43 (.int .i64 er)) 20 43 true).run Tryz.prog w= .ok (.tuple #[.int .i64 er,.bool true]) w:=by kernel_rfl
theorem iW {w:World} {b:Nat} {cs cs':Array Value} {T:TypeId} (h:ah w b cs T) (e:cs=cs'):ah w b cs' T:=e ▸ h
def caught (er:Int) (rec:Bool):FrameMode:=.panicking [{ v:=.iface 43 (.int .i64 er),recovered:=rec }]
theorem Oj (p q:Addr) (w:World) :
  CallsD Tryz.prog 121 #[.pointer (some p),.pointer (some q)] .returning w fun e u' w'=>e= .returned (.tuple #[])∧u'= .returning∧w'=w:=by
 refine callsD_of_wpS Tryz.func121 rfl fun c₀ cs hu=>?_;simp only [Tryz.ntmps121,List.size_toArray,List.length_cons,List.length_nil,Nat.reduceAdd,Nat.reduceSub,Array.replicate_succ,Array.replicate_zero,List.push_toArray,List.append_toArray,List.nil_append,List.cons_append];refine wpS_seq (wpS_region ?_);generalize hQ:Exit.thenS _ _=Q;simp [wpOpsS,go_sem,recoverD,hu]
 rw [← hQ];clear hQ;refine wpS_of_wp ?_;go_wp2_with fail
 cases c₀
 simp_all [bodyPostS,results,Tryz.results121]
theorem aB3 (b c:Nat) (s1 s2 s3 s4 s5 s6:Int) (z er:Int) (w:World) (hb:ah w b #[.int .i64 s1,.int .i64 s2,.int .i64 s3,.int .i64 s4,.int .i64 s5,.int .i64 s6] 42) (hc:ah w c #[.int .i64 z] 43) :
  CallsD Tryz.prog 121 #[.pointer (some ⟨b,0,none⟩),.pointer (some ⟨c,0,none⟩)] (caught er false) w fun e u' w' =>
   e= .returned (.tuple #[])∧u'=caught er true∧ah w' b #[.int .i64 0,.int .i64 0,.int .i64 0,.int .i64 0,.int .i64 0,.int .i64 0] 42∧ah w' c #[.int .i64 er] 43∧∀ w0:World,w0.heap.size≤b→w0.heap.size≤c→Below w0.heap.size w0 w→Below w0.heap.size w0 w':=by
 unfold caught;refine callsD_of_wpS Tryz.func121 rfl fun c₀ cs hu=>?_;simp only [Tryz.ntmps121,List.size_toArray,List.length_cons,List.length_nil,Nat.reduceAdd,Nat.reduceSub,Array.replicate_succ,Array.replicate_zero,List.push_toArray,List.append_toArray,List.nil_append,List.cons_append];refine wpS_seq (wpS_region ?_);generalize hQ:Exit.thenS _ _=Q;simp [wpOpsS,go_sem,recoverD,hu]
 rw [← hQ];clear hQ;refine wpS_of_wp ?_;have cb:=hb.cell;have fb:=hb.free;have cc:=hc.cell;have fc:=hc.free;have lb:=hb.lt;have lc:=hc.lt;have hne:b≠c:=hb.ne hc zd;have hne2:c≠b:=fun e=>hne e.symm;have hta:=Aq er;obtain ⟨R,HR⟩:∃ R:Ending→FrameMode→World→Prop,Hid (R=fun e u' w'=>e= .returned (.tuple #[])∧u'= .panicking [{ v:=.iface 43 (.int .i64 er),recovered:=true }]∧ah w' b #[.int .i64 0,.int .i64 0,.int .i64 0,.int .i64 0,.int .i64 0,.int .i64 0] 42∧ah w' c #[.int .i64 er] 43∧∀ w0:World,w0.heap.size≤b→w0.heap.size≤c→Below w0.heap.size w0 w→Below w0.heap.size w0 w'):=⟨_,zh rfl⟩
 rw [← HR.out];go_wp2_with fail
 simp only [bodyPostS];refine ⟨trivial,_,rfl,_,results_none rfl _ _ _,?_⟩;rw [HR.out];refine ⟨rfl,rfl,?_,?_,fun w0 h1 h2 h3=>?_⟩
 ·apply iW
  ·exact aJ
  ·simp only [List.setIfInBounds_toArray,List.set_cons_zero,List.set_cons_succ]
 ·apply iW
  ·exact aJ
  ·simp only [List.setIfInBounds_toArray,List.set_cons_zero,List.set_cons_succ]
 ·exact aD
theorem Oi (p q:Addr) (w:World) :
  CallsD Tryz.prog 167 #[.pointer (some p),.pointer (some q)] .returning w fun e u' w'=>e= .returned (.tuple #[])∧u'= .returning∧w'=w:=by
 refine callsD_of_wpS Tryz.func167 rfl fun c₀ cs hu=>?_;simp only [Tryz.ntmps167,List.size_toArray,List.length_cons,List.length_nil,Nat.reduceAdd,Nat.reduceSub,Array.replicate_succ,Array.replicate_zero,List.push_toArray,List.append_toArray,List.nil_append,List.cons_append];refine wpS_seq (wpS_region ?_);generalize hQ:Exit.thenS _ _=Q;simp [wpOpsS,go_sem,recoverD,hu]
 rw [← hQ];clear hQ;refine wpS_of_wp ?_;go_wp2_with fail
 cases c₀
 simp_all [bodyPostS,results,Tryz.results167]
theorem aB2 (b c:Nat) (s1 s2 s3 s4 s5 s6:ByteArray) (z er:Int) (w:World) (hb:ah w b #[.string s1,.string s2,.string s3,.string s4,.string s5,.string s6] 34) (hc:ah w c #[.int .i64 z] 43) :
  CallsD Tryz.prog 167 #[.pointer (some ⟨b,0,none⟩),.pointer (some ⟨c,0,none⟩)] (caught er false) w fun e u' w' =>
   e= .returned (.tuple #[])∧u'=caught er true∧ah w' b #[.string ⟨#[]⟩,.string ⟨#[]⟩,.string ⟨#[]⟩,.string ⟨#[]⟩,.string ⟨#[]⟩,.string ⟨#[]⟩] 34∧ah w' c #[.int .i64 er] 43∧∀ w0:World,w0.heap.size≤b→w0.heap.size≤c→Below w0.heap.size w0 w→Below w0.heap.size w0 w':=by
 unfold caught;refine callsD_of_wpS Tryz.func167 rfl fun c₀ cs hu=>?_;simp only [Tryz.ntmps167,List.size_toArray,List.length_cons,List.length_nil,Nat.reduceAdd,Nat.reduceSub,Array.replicate_succ,Array.replicate_zero,List.push_toArray,List.append_toArray,List.nil_append,List.cons_append];refine wpS_seq (wpS_region ?_);generalize hQ:Exit.thenS _ _=Q;simp [wpOpsS,go_sem,recoverD,hu]
 rw [← hQ];clear hQ;refine wpS_of_wp ?_;have cb:=hb.cell;have fb:=hb.free;have cc:=hc.cell;have fc:=hc.free;have lb:=hb.lt;have lc:=hc.lt;have hne:b≠c:=hb.ne hc zd;have hne2:c≠b:=fun e=>hne e.symm;have hta:=Aq er;obtain ⟨R,HR⟩:∃ R:Ending→FrameMode→World→Prop,Hid (R=fun e u' w'=>e= .returned (.tuple #[])∧u'= .panicking [{ v:=.iface 43 (.int .i64 er),recovered:=true }]∧ah w' b #[.string ⟨#[]⟩,.string ⟨#[]⟩,.string ⟨#[]⟩,.string ⟨#[]⟩,.string ⟨#[]⟩,.string ⟨#[]⟩] 34∧ah w' c #[.int .i64 er] 43∧∀ w0:World,w0.heap.size≤b→w0.heap.size≤c→Below w0.heap.size w0 w→Below w0.heap.size w0 w'):=⟨_,zh rfl⟩
 rw [← HR.out];go_wp2_with fail
 simp only [bodyPostS];refine ⟨trivial,_,rfl,_,results_none rfl _ _ _,?_⟩;rw [HR.out];refine ⟨rfl,rfl,?_,?_,fun w0 h1 h2 h3=>?_⟩
 ·apply iW
  ·exact aJ
  ·simp only [List.setIfInBounds_toArray,List.set_cons_zero,List.set_cons_succ]
 ·apply iW
  ·exact aJ
  ·simp only [List.setIfInBounds_toArray,List.set_cons_zero,List.set_cons_succ]
 ·exact aD
theorem Ol (p q:Addr) (w:World) :
  CallsD Tryz.prog 152 #[.pointer (some p),.pointer (some q)] .returning w fun e u' w'=>e= .returned (.tuple #[])∧u'= .returning∧w'=w:=by
 refine callsD_of_wpS Tryz.func152 rfl fun c₀ cs hu=>?_;simp only [Tryz.ntmps152,List.size_toArray,List.length_cons,List.length_nil,Nat.reduceAdd,Nat.reduceSub,Array.replicate_succ,Array.replicate_zero,List.push_toArray,List.append_toArray,List.nil_append,List.cons_append];refine wpS_seq (wpS_region ?_);generalize hQ:Exit.thenS _ _=Q;simp [wpOpsS,go_sem,recoverD,hu]
 rw [← hQ];clear hQ;refine wpS_of_wp ?_;go_wp2_with fail
 cases c₀
 simp_all [bodyPostS,results,Tryz.results152]
theorem aB4 (b c:Nat) (s1 s2 s3 s4 s5 s6:Int) (z er:Int) (w:World) (hb:ah w b #[.int .i64 s1,.int .i64 s2,.int .i64 s3,.int .i64 s4,.int .i64 s5,.int .i64 s6] 118) (hc:ah w c #[.int .i64 z] 43) :
  CallsD Tryz.prog 152 #[.pointer (some ⟨b,0,none⟩),.pointer (some ⟨c,0,none⟩)] (caught er false) w fun e u' w' =>
   e= .returned (.tuple #[])∧u'=caught er true∧ah w' b #[.int .i64 0,.int .i64 0,.int .i64 0,.int .i64 0,.int .i64 0,.int .i64 0] 118∧ah w' c #[.int .i64 er] 43∧∀ w0:World,w0.heap.size≤b→w0.heap.size≤c→Below w0.heap.size w0 w→Below w0.heap.size w0 w':=by
 unfold caught;refine callsD_of_wpS Tryz.func152 rfl fun c₀ cs hu=>?_;simp only [Tryz.ntmps152,List.size_toArray,List.length_cons,List.length_nil,Nat.reduceAdd,Nat.reduceSub,Array.replicate_succ,Array.replicate_zero,List.push_toArray,List.append_toArray,List.nil_append,List.cons_append];refine wpS_seq (wpS_region ?_);generalize hQ:Exit.thenS _ _=Q;simp [wpOpsS,go_sem,recoverD,hu]
 rw [← hQ];clear hQ;refine wpS_of_wp ?_;have cb:=hb.cell;have fb:=hb.free;have cc:=hc.cell;have fc:=hc.free;have lb:=hb.lt;have lc:=hc.lt;have hne:b≠c:=hb.ne hc zd;have hne2:c≠b:=fun e=>hne e.symm;have hta:=Aq er;obtain ⟨R,HR⟩:∃ R:Ending→FrameMode→World→Prop,Hid (R=fun e u' w'=>e= .returned (.tuple #[])∧u'= .panicking [{ v:=.iface 43 (.int .i64 er),recovered:=true }]∧ah w' b #[.int .i64 0,.int .i64 0,.int .i64 0,.int .i64 0,.int .i64 0,.int .i64 0] 118∧ah w' c #[.int .i64 er] 43∧∀ w0:World,w0.heap.size≤b→w0.heap.size≤c→Below w0.heap.size w0 w→Below w0.heap.size w0 w'):=⟨_,zh rfl⟩
 rw [← HR.out];go_wp2_with fail
 simp only [bodyPostS];refine ⟨trivial,_,rfl,_,results_none rfl _ _ _,?_⟩;rw [HR.out];refine ⟨rfl,rfl,?_,?_,fun w0 h1 h2 h3=>?_⟩
 ·apply iW
  ·exact aJ
  ·simp only [List.setIfInBounds_toArray,List.set_cons_zero,List.set_cons_succ]
 ·apply iW
  ·exact aJ
  ·simp only [List.setIfInBounds_toArray,List.set_cons_zero,List.set_cons_succ]
 ·exact aD
theorem gG {P:Program} {fn:Func} {w:World} {tmps:Array Value} {p q:Tmp} {ty Bu:TypeId} {g g2:Nat} {x y:Value} (h:fn.results=#[.cell p ty,.cell q Bu])
  (hp:tmps.getD p undef= .pointer (some ⟨g,0,none⟩)) (hq:tmps.getD q undef= .pointer (some ⟨g2,0,none⟩)) (h1:(loadVar ty ⟨g,0,none⟩).run P w= .ok x w) (h2:(loadVar Bu ⟨g2,0,none⟩).run P w= .ok y w) :
  (results fn tmps).run P w= .ok (.tuple #[x,y]) w:=by
 have hp':tmps[p]?.getD undef= .pointer (some ⟨g,0,none⟩):=by simpa using hp
 have hq':tmps[q]?.getD undef= .pointer (some ⟨g2,0,none⟩):=by simpa using hq
 simp [results,h,hp',hq',asAddr,h1,h2]
theorem mF {w:World} {c:Nat} {z:Int} (h:ah w c #[.int .i64 z] 43):(loadVar 43 ⟨c,0,none⟩).run Tryz.prog w= .ok (.int .i64 z) w:=by
 have hc:=h.cell 0;simp [go_sem,hc]
theorem Zp {w:World} {b:Nat} {s1 s2 s3 s4 s5 s6:Int} (h:ah w b #[.int .i64 s1,.int .i64 s2,.int .i64 s3,.int .i64 s4,.int .i64 s5,.int .i64 s6] 42):(loadVar 42 ⟨b,0,none⟩).run Tryz.prog w= .ok (.agg #[.int .i64 s1,.int .i64 s2,.int .i64 s3,.int .i64 s4,.int .i64 s5,.int .i64 s6]) w :=
 run_loadVar_row w b 42 42 _ (0,0) _ h Tryz.underlying42 rfl zk
theorem QW {f:FuncId} {caps:Array Value} {k:Int} {s1 s2 s3 s4 s5 s6:Int} (w:World) (HC:∀ W,Below w.heap.size w W→Calls Tryz.prog f caps W (Try W (.agg #[.int .i64 s1,.int .i64 s2,.int .i64 s3,.int .i64 s4,.int .i64 s5,.int .i64 s6]) k))
  (hf:∀ args W,(callFunc f args).run Tryz.prog W= .ok (.enter f args) W) :
  Calls Tryz.prog 44 #[.func (.func f) #[] caps] w (Ip w (.agg #[.int .i64 s1,.int .i64 s2,.int .i64 s3,.int .i64 s4,.int .i64 s5,.int .i64 s6]) (.agg #[.int .i64 0,.int .i64 0,.int .i64 0,.int .i64 0,.int .i64 0,.int .i64 0]) k):=by
 have hmf:∀ (fn:Fn) (first cap:Array Value) (w:World),(Instr.makeFunc fn first cap).run Tryz.prog w= .ok (.func fn first cap) w:=fun _ _ _ _=>rfl;have HCH:=zh HC;clear HC;have hb0:Below w.heap.size w ((w.alloc (.cells #[.int .i64 0,.int .i64 0,.int .i64 0,.int .i64 0,.int .i64 0,.int .i64 0] 42)).alloc (.cells #[.int .i64 0] 43)):=aD;obtain ⟨w0,Vd⟩:∃ y,(w.alloc (.cells #[.int .i64 0,.int .i64 0,.int .i64 0,.int .i64 0,.int .i64 0,.int .i64 0] 42)).alloc (.cells #[.int .i64 0] 43)=y:=⟨_,rfl⟩;have hx1:ah w0 w.heap.size #[.int .i64 0,.int .i64 0,.int .i64 0,.int .i64 0,.int .i64 0,.int .i64 0] 42:=by rw [← Vd];exact aJ
 have hx2:ah w0 (w.heap.size+1) #[.int .i64 0] 43:=by rw [← Vd];exact aJ
 rw [Vd] at hb0
 go_enter_defers Tryz.func44,Tryz.ntmps44
 go_wp2_with fail
 refine (HCH.out _ hb0).mono ?_;rintro e w1 ⟨hb1,⟨rfl,rfl⟩|⟨h,rfl⟩⟩
 ·replace hx1:=hx1.later hb1;replace hx2:=hx2.later hb1;have c1:=hx1.cell;have f1:=hx1.free;have c2:=hx2.cell;have f2:=hx2.free;have hne:w.heap.size≠w.heap.size+1:=by omega
  have hx3:ah (((((((w1.setCell ⟨w.heap.size,0,none⟩ (.int .i64 s1)).setCell ⟨w.heap.size,1,none⟩ (.int .i64 s2)).setCell ⟨w.heap.size,2,none⟩ (.int .i64 s3)).setCell ⟨w.heap.size,3,none⟩ (.int .i64 s4)).setCell ⟨w.heap.size,4,none⟩ (.int .i64 s5)).setCell ⟨w.heap.size,5,none⟩ (.int .i64 s6)).setCell ⟨w.heap.size+1,0,none⟩ (.int .i64 0)) w.heap.size #[.int .i64 s1,.int .i64 s2,.int .i64 s3,.int .i64 s4,.int .i64 s5,.int .i64 s6] 42:=by
   apply iW
   ·exact aJ
   ·simp only [List.setIfInBounds_toArray,List.set_cons_zero,List.set_cons_succ]
  have hx4:ah (((((((w1.setCell ⟨w.heap.size,0,none⟩ (.int .i64 s1)).setCell ⟨w.heap.size,1,none⟩ (.int .i64 s2)).setCell ⟨w.heap.size,2,none⟩ (.int .i64 s3)).setCell ⟨w.heap.size,3,none⟩ (.int .i64 s4)).setCell ⟨w.heap.size,4,none⟩ (.int .i64 s5)).setCell ⟨w.heap.size,5,none⟩ (.int .i64 s6)).setCell ⟨w.heap.size+1,0,none⟩ (.int .i64 0)) (w.heap.size+1) #[.int .i64 0] 43:=by
   apply iW
   ·exact aJ
   ·simp only [List.setIfInBounds_toArray,List.set_cons_zero,List.set_cons_succ]
  have hbw:Below w.heap.size w (((((((w1.setCell ⟨w.heap.size,0,none⟩ (.int .i64 s1)).setCell ⟨w.heap.size,1,none⟩ (.int .i64 s2)).setCell ⟨w.heap.size,2,none⟩ (.int .i64 s3)).setCell ⟨w.heap.size,3,none⟩ (.int .i64 s4)).setCell ⟨w.heap.size,4,none⟩ (.int .i64 s5)).setCell ⟨w.heap.size,5,none⟩ (.int .i64 s6)).setCell ⟨w.heap.size+1,0,none⟩ (.int .i64 0)):=by
   have:=Bt hb0 hb1;exact aD
  have HX3:=zh hx3;have HX4:=zh hx4;have HBW:=zh hbw;clear hx3 hx4 hbw Vd hx1 hx2 hb0 hb1;go_wp2_with fail
  refine leaves_cons (f:=121) (args:=#[.pointer (some ⟨w.heap.size,0,none⟩),.pointer (some ⟨w.heap.size+1,0,none⟩)]) zi (by simp [go_sem]) ?_;refine (Oj _ _ _).mono ?_;rintro e u' w'' ⟨rfl,rfl,rfl⟩;exact ⟨_,gG rfl rfl rfl (Zp HX3.out) (mF HX4.out),HBW.out,.inl ⟨rfl,rfl⟩⟩
 ·replace hx1:=hx1.later hb1;replace hx2:=hx2.later hb1
  change bodyPostD _ _ _ (Exit.panic [{ v:=.iface 43 (.int .i64 k),recovered:=false }]) _ _
  refine leaves_cons (f:=121) (args:=#[.pointer (some ⟨w.heap.size,0,none⟩),.pointer (some ⟨w.heap.size+1,0,none⟩)]) zi (by simp [go_sem]) ?_;refine (aB3 w.heap.size (w.heap.size+1) _ _ _ _ _ _ _ k _ hx1 hx2).mono ?_;rintro e u' w'' ⟨rfl,rfl,hy1,hy2,hbb⟩;exact ⟨_,gG rfl rfl rfl (Zp hy1) (mF hy2),hbb w (Nat.le_refl _) zo (Bt hb0 hb1),.inr ⟨h,rfl⟩⟩
theorem Zo {w:World} {b:Nat} {s1 s2 s3 s4 s5 s6:ByteArray} (h:ah w b #[.string s1,.string s2,.string s3,.string s4,.string s5,.string s6] 34):(loadVar 34 ⟨b,0,none⟩).run Tryz.prog w= .ok (.agg #[.string s1,.string s2,.string s3,.string s4,.string s5,.string s6]) w :=
 run_loadVar_row w b 34 34 _ (0,0) _ h Tryz.underlying34 rfl zk
theorem EO {f:FuncId} {caps:Array Value} {k:Int} {s1 s2 s3 s4 s5 s6:ByteArray} (w:World) (HC:∀ W,Below w.heap.size w W→Calls Tryz.prog f caps W (Try W (.agg #[.string s1,.string s2,.string s3,.string s4,.string s5,.string s6]) k))
  (hf:∀ args W,(callFunc f args).run Tryz.prog W= .ok (.enter f args) W) :
  Calls Tryz.prog 80 #[.func (.func f) #[] caps] w (Ip w (.agg #[.string s1,.string s2,.string s3,.string s4,.string s5,.string s6]) (.agg #[.string ⟨#[]⟩,.string ⟨#[]⟩,.string ⟨#[]⟩,.string ⟨#[]⟩,.string ⟨#[]⟩,.string ⟨#[]⟩]) k):=by
 have hmf:∀ (fn:Fn) (first cap:Array Value) (w:World),(Instr.makeFunc fn first cap).run Tryz.prog w= .ok (.func fn first cap) w:=fun _ _ _ _=>rfl;have HCH:=zh HC;clear HC;have hb0:Below w.heap.size w ((w.alloc (.cells #[.string ⟨#[]⟩,.string ⟨#[]⟩,.string ⟨#[]⟩,.string ⟨#[]⟩,.string ⟨#[]⟩,.string ⟨#[]⟩] 34)).alloc (.cells #[.int .i64 0] 43)):=aD;obtain ⟨w0,Vd⟩:∃ y,(w.alloc (.cells #[.string ⟨#[]⟩,.string ⟨#[]⟩,.string ⟨#[]⟩,.string ⟨#[]⟩,.string ⟨#[]⟩,.string ⟨#[]⟩] 34)).alloc (.cells #[.int .i64 0] 43)=y:=⟨_,rfl⟩;have hx1:ah w0 w.heap.size #[.string ⟨#[]⟩,.string ⟨#[]⟩,.string ⟨#[]⟩,.string ⟨#[]⟩,.string ⟨#[]⟩,.string ⟨#[]⟩] 34:=by rw [← Vd];exact aJ
 have hx2:ah w0 (w.heap.size+1) #[.int .i64 0] 43:=by rw [← Vd];exact aJ
 rw [Vd] at hb0
 go_enter_defers Tryz.func80,Tryz.ntmps80
 go_wp2_with fail
 refine (HCH.out _ hb0).mono ?_;rintro e w1 ⟨hb1,⟨rfl,rfl⟩|⟨h,rfl⟩⟩
 ·replace hx1:=hx1.later hb1;replace hx2:=hx2.later hb1;have c1:=hx1.cell;have f1:=hx1.free;have c2:=hx2.cell;have f2:=hx2.free;have hne:w.heap.size≠w.heap.size+1:=by omega
  have hx3:ah (((((((w1.setCell ⟨w.heap.size,0,none⟩ (.string s1)).setCell ⟨w.heap.size,1,none⟩ (.string s2)).setCell ⟨w.heap.size,2,none⟩ (.string s3)).setCell ⟨w.heap.size,3,none⟩ (.string s4)).setCell ⟨w.heap.size,4,none⟩ (.string s5)).setCell ⟨w.heap.size,5,none⟩ (.string s6)).setCell ⟨w.heap.size+1,0,none⟩ (.int .i64 0)) w.heap.size #[.string s1,.string s2,.string s3,.string s4,.string s5,.string s6] 34:=by
   apply iW
   ·exact aJ
   ·simp only [List.setIfInBounds_toArray,List.set_cons_zero,List.set_cons_succ]
  have hx4:ah (((((((w1.setCell ⟨w.heap.size,0,none⟩ (.string s1)).setCell ⟨w.heap.size,1,none⟩ (.string s2)).setCell ⟨w.heap.size,2,none⟩ (.string s3)).setCell ⟨w.heap.size,3,none⟩ (.string s4)).setCell ⟨w.heap.size,4,none⟩ (.string s5)).setCell ⟨w.heap.size,5,none⟩ (.string s6)).setCell ⟨w.heap.size+1,0,none⟩ (.int .i64 0)) (w.heap.size+1) #[.int .i64 0] 43:=by
   apply iW
   ·exact aJ
   ·simp only [List.setIfInBounds_toArray,List.set_cons_zero,List.set_cons_succ]
  have hbw:Below w.heap.size w (((((((w1.setCell ⟨w.heap.size,0,none⟩ (.string s1)).setCell ⟨w.heap.size,1,none⟩ (.string s2)).setCell ⟨w.heap.size,2,none⟩ (.string s3)).setCell ⟨w.heap.size,3,none⟩ (.string s4)).setCell ⟨w.heap.size,4,none⟩ (.string s5)).setCell ⟨w.heap.size,5,none⟩ (.string s6)).setCell ⟨w.heap.size+1,0,none⟩ (.int .i64 0)):=by
   have:=Bt hb0 hb1;exact aD
  have HX3:=zh hx3;have HX4:=zh hx4;have HBW:=zh hbw;clear hx3 hx4 hbw Vd hx1 hx2 hb0 hb1;go_wp2_with fail
  refine leaves_cons (f:=167) (args:=#[.pointer (some ⟨w.heap.size,0,none⟩),.pointer (some ⟨w.heap.size+1,0,none⟩)]) zi (by simp [go_sem]) ?_;refine (Oi _ _ _).mono ?_;rintro e u' w'' ⟨rfl,rfl,rfl⟩;exact ⟨_,gG rfl rfl rfl (Zo HX3.out) (mF HX4.out),HBW.out,.inl ⟨rfl,rfl⟩⟩
 ·replace hx1:=hx1.later hb1;replace hx2:=hx2.later hb1
  change bodyPostD _ _ _ (Exit.panic [{ v:=.iface 43 (.int .i64 k),recovered:=false }]) _ _
  refine leaves_cons (f:=167) (args:=#[.pointer (some ⟨w.heap.size,0,none⟩),.pointer (some ⟨w.heap.size+1,0,none⟩)]) zi (by simp [go_sem]) ?_;refine (aB2 w.heap.size (w.heap.size+1) _ _ _ _ _ _ _ k _ hx1 hx2).mono ?_;rintro e u' w'' ⟨rfl,rfl,hy1,hy2,hbb⟩;exact ⟨_,gG rfl rfl rfl (Zo hy1) (mF hy2),hbb w (Nat.le_refl _) zo (Bt hb0 hb1),.inr ⟨h,rfl⟩⟩
theorem Zq {w:World} {b:Nat} {s1 s2 s3 s4 s5 s6:Int} (h:ah w b #[.int .i64 s1,.int .i64 s2,.int .i64 s3,.int .i64 s4,.int .i64 s5,.int .i64 s6] 118):(loadVar 118 ⟨b,0,none⟩).run Tryz.prog w= .ok (.agg #[.int .i64 s1,.int .i64 s2,.int .i64 s3,.int .i64 s4,.int .i64 s5,.int .i64 s6]) w :=
 run_loadVar_row w b 118 118 _ (0,0) _ h Tryz.underlying118 rfl zk
theorem Fa {f:FuncId} {caps:Array Value} {k:Int} {s1 s2 s3 s4 s5 s6:Int} (w:World) (HC:∀ W,Below w.heap.size w W→Calls Tryz.prog f caps W (Try W (.agg #[.int .i64 s1,.int .i64 s2,.int .i64 s3,.int .i64 s4,.int .i64 s5,.int .i64 s6]) k))
  (hf:∀ args W,(callFunc f args).run Tryz.prog W= .ok (.enter f args) W) :
  Calls Tryz.prog 69 #[.func (.func f) #[] caps] w (Ip w (.agg #[.int .i64 s1,.int .i64 s2,.int .i64 s3,.int .i64 s4,.int .i64 s5,.int .i64 s6]) (.agg #[.int .i64 0,.int .i64 0,.int .i64 0,.int .i64 0,.int .i64 0,.int .i64 0]) k):=by
 have hmf:∀ (fn:Fn) (first cap:Array Value) (w:World),(Instr.makeFunc fn first cap).run Tryz.prog w= .ok (.func fn first cap) w:=fun _ _ _ _=>rfl;have HCH:=zh HC;clear HC;have hb0:Below w.heap.size w ((w.alloc (.cells #[.int .i64 0,.int .i64 0,.int .i64 0,.int .i64 0,.int .i64 0,.int .i64 0] 118)).alloc (.cells #[.int .i64 0] 43)):=aD;obtain ⟨w0,Vd⟩:∃ y,(w.alloc (.cells #[.int .i64 0,.int .i64 0,.int .i64 0,.int .i64 0,.int .i64 0,.int .i64 0] 118)).alloc (.cells #[.int .i64 0] 43)=y:=⟨_,rfl⟩;have hx1:ah w0 w.heap.size #[.int .i64 0,.int .i64 0,.int .i64 0,.int .i64 0,.int .i64 0,.int .i64 0] 118:=by rw [← Vd];exact aJ
 have hx2:ah w0 (w.heap.size+1) #[.int .i64 0] 43:=by rw [← Vd];exact aJ
 rw [Vd] at hb0
 go_enter_defers Tryz.func69,Tryz.ntmps69
 go_wp2_with fail
 refine (HCH.out _ hb0).mono ?_;rintro e w1 ⟨hb1,⟨rfl,rfl⟩|⟨h,rfl⟩⟩
 ·replace hx1:=hx1.later hb1;replace hx2:=hx2.later hb1;have c1:=hx1.cell;have f1:=hx1.free;have c2:=hx2.cell;have f2:=hx2.free;have hne:w.heap.size≠w.heap.size+1:=by omega
  have hx3:ah (((((((w1.setCell ⟨w.heap.size,0,none⟩ (.int .i64 s1)).setCell ⟨w.heap.size,1,none⟩ (.int .i64 s2)).setCell ⟨w.heap.size,2,none⟩ (.int .i64 s3)).setCell ⟨w.heap.size,3,none⟩ (.int .i64 s4)).setCell ⟨w.heap.size,4,none⟩ (.int .i64 s5)).setCell ⟨w.heap.size,5,none⟩ (.int .i64 s6)).setCell ⟨w.heap.size+1,0,none⟩ (.int .i64 0)) w.heap.size #[.int .i64 s1,.int .i64 s2,.int .i64 s3,.int .i64 s4,.int .i64 s5,.int .i64 s6] 118:=by
   apply iW
   ·exact aJ
   ·simp only [List.setIfInBounds_toArray,List.set_cons_zero,List.set_cons_succ]
  have hx4:ah (((((((w1.setCell ⟨w.heap.size,0,none⟩ (.int .i64 s1)).setCell ⟨w.heap.size,1,none⟩ (.int .i64 s2)).setCell ⟨w.heap.size,2,none⟩ (.int .i64 s3)).setCell ⟨w.heap.size,3,none⟩ (.int .i64 s4)).setCell ⟨w.heap.size,4,none⟩ (.int .i64 s5)).setCell ⟨w.heap.size,5,none⟩ (.int .i64 s6)).setCell ⟨w.heap.size+1,0,none⟩ (.int .i64 0)) (w.heap.size+1) #[.int .i64 0] 43:=by
   apply iW
   ·exact aJ
   ·simp only [List.setIfInBounds_toArray,List.set_cons_zero,List.set_cons_succ]
  have hbw:Below w.heap.size w (((((((w1.setCell ⟨w.heap.size,0,none⟩ (.int .i64 s1)).setCell ⟨w.heap.size,1,none⟩ (.int .i64 s2)).setCell ⟨w.heap.size,2,none⟩ (.int .i64 s3)).setCell ⟨w.heap.size,3,none⟩ (.int .i64 s4)).setCell ⟨w.heap.size,4,none⟩ (.int .i64 s5)).setCell ⟨w.heap.size,5,none⟩ (.int .i64 s6)).setCell ⟨w.heap.size+1,0,none⟩ (.int .i64 0)):=by
   have:=Bt hb0 hb1;exact aD
  have HX3:=zh hx3;have HX4:=zh hx4;have HBW:=zh hbw;clear hx3 hx4 hbw Vd hx1 hx2 hb0 hb1;go_wp2_with fail
  refine leaves_cons (f:=152) (args:=#[.pointer (some ⟨w.heap.size,0,none⟩),.pointer (some ⟨w.heap.size+1,0,none⟩)]) zi (by simp [go_sem]) ?_;refine (Ol _ _ _).mono ?_;rintro e u' w'' ⟨rfl,rfl,rfl⟩;exact ⟨_,gG rfl rfl rfl (Zq HX3.out) (mF HX4.out),HBW.out,.inl ⟨rfl,rfl⟩⟩
 ·replace hx1:=hx1.later hb1;replace hx2:=hx2.later hb1
  change bodyPostD _ _ _ (Exit.panic [{ v:=.iface 43 (.int .i64 k),recovered:=false }]) _ _
  refine leaves_cons (f:=152) (args:=#[.pointer (some ⟨w.heap.size,0,none⟩),.pointer (some ⟨w.heap.size+1,0,none⟩)]) zi (by simp [go_sem]) ?_;refine (aB4 w.heap.size (w.heap.size+1) _ _ _ _ _ _ _ k _ hx1 hx2).mono ?_;rintro e u' w'' ⟨rfl,rfl,hy1,hy2,hbb⟩;exact ⟨_,gG rfl rfl rfl (Zq hy1) (mF hy2),hbb w (Nat.le_refl _) zo (Bt hb0 hb1),.inr ⟨h,rfl⟩⟩
end Go.Proofs.lab
namespace Go.Proofs.lab
open Go Go.RowKit Go.SW Go.Num Go.Mem Go.Proofs Go.fF Go.Fx
theorem am3 {P:Program} {f:FuncId} {args:Array Value} {w:World} {v z:Value} {k:Int} (C:Calls P f args w (Ip w v z k)) (h:k=0):Calls P f args w (fun e w'=>e= .returned (.tuple #[v,.int .i64 0])∧Below w.heap.size w w'):=C.mono fun _ _ ⟨hb,hh⟩=>by
 rcases hh with ⟨-, rfl⟩|⟨hk, -⟩
 ·exact ⟨rfl,hb⟩
 ·exact absurd h hk
theorem aA1 {P:Program} {f:FuncId} {args:Array Value} {w:World} {v z:Value} {k:Int} (C:Calls P f args w (Ip w v z k)) (h:k≠0):Calls P f args w (fun e w'=>e= .returned (.tuple #[z,.int .i64 k])∧Below w.heap.size w w'):=C.mono fun _ _ ⟨hb,hh⟩=>by
 rcases hh with ⟨hk, -⟩|⟨-, rfl⟩
 ·exact absurd hk h
 ·exact ⟨rfl,hb⟩
theorem Kq {P:Program} {f:FuncId} {args:Array Value} {w:World} {u v z:Value} {k:Int} (C:Calls P f args w (Ip w v z k)) (h:(k=0∧u=v)∨(k≠0∧u=z)):Calls P f args w (fun e w'=>e= .returned (.tuple #[u,.int .i64 k])∧Below w.heap.size w w'):=C.mono fun _ _ ⟨hb,hh⟩=>by
 rcases h with ⟨h1,rfl⟩|⟨h1,rfl⟩<;>rcases hh with ⟨h2,rfl⟩|⟨h2,rfl⟩
 ·exact ⟨by rw [h1],hb⟩
 ·exact absurd h1 h2
 ·exact absurd h2 h1
 ·exact ⟨rfl,hb⟩
theorem pX {α:Type} {c k:Int} {z v:α} {r:α × Int} (hx:eX (if c≠0 then (z,c) else r) v k) (H:(!(c == 0))=true):c=k∧k≠0:=by
 have h:c≠0:=by simpa using H
 have e:c=k:=(eX.pos hx h).1;exact ⟨e,e ▸ h⟩
theorem Fe {α:Type} {c k:Int} {z v:α} {r:α × Int} (hx:eX (if c≠0 then (z,c) else r) v k) (H:(!(c == 0))=false):eX r v k:=eX.neg hx (by simpa using H)
def yS (t:light.gK):Int:=if BK t.x≠0 then BK t.x else if BK t.y≠0 then BK t.y else BK t.z
def sJ (b:Int × Int):Int:=if aW.dY b.1 b.2 then 0 else 30
def Bo (l:(Int × Int) × (Int × Int) × (Int × Int)):Int:=if sJ l.1≠0 then sJ l.1 else if sJ l.2.1≠0 then sJ l.2.1 else sJ l.2.2
theorem nY (s1 s2 s3 s4 s5 s6:ByteArray) (w:World):Calls Tryz.prog 79 #[.agg #[.string s1,.string s2,.string s3,.string s4,.string s5,.string s6]] w (fun e w'=>e= .returned (.int .i64 (yS ⟨⟨s1,s2⟩,⟨s3,s4⟩,⟨s5,s6⟩⟩))∧Below w.heap.size w w'):=by
 have K0:∀ W,Calls Tryz.prog 166 #[.agg #[.string s1,.string s2]] W (fun e w'=>e= .returned (.int .i64 (BK ⟨s1,s2⟩))∧Below W.heap.size W w'):=fun W=>dA.jR ⟨s1,s2⟩ W;have K1:∀ W,Calls Tryz.prog 166 #[.agg #[.string s3,.string s4]] W (fun e w'=>e= .returned (.int .i64 (BK ⟨s3,s4⟩))∧Below W.heap.size W w'):=fun W=>dA.jR ⟨s3,s4⟩ W;have K2:∀ W,Calls Tryz.prog 166 #[.agg #[.string s5,.string s6]] W (fun e w'=>e= .returned (.int .i64 (BK ⟨s5,s6⟩))∧Below W.heap.size W w'):=fun W=>dA.jR ⟨s5,s6⟩ W;have e:yS ⟨⟨s1,s2⟩,⟨s3,s4⟩,⟨s5,s6⟩⟩=if BK ⟨s1,s2⟩≠0 then BK ⟨s1,s2⟩ else if BK ⟨s3,s4⟩≠0 then BK ⟨s3,s4⟩ else BK ⟨s5,s6⟩:=rfl
 rw [e];generalize BK ⟨s1,s2⟩=k0 at *;generalize BK ⟨s3,s4⟩=k1 at *;generalize BK ⟨s5,s6⟩=k2 at *;clear e;refine Fx.door Tryz.func79 rfl (.nil w []) ?_;refine Fx.new [] 1 #[.string s1,.string s2,.string s3,.string s4,.string s5,.string s6] 34 [] [] fun dW=>?_;refine Fx.aL [3,1] 4 32 [(6,.agg #[.string s1,.string s2,.string s3,.string s4,.string s5,.string s6]),(7,.int .i64 0),(9,.agg #[.string s1,.string s2])] [] fun dM=>?_;refine Fx.aO [4,4] 11 [] [(1,#[.string s1,.string s2])] K0 ?_;refine Fx.part 7 [] [(13,.bool (!(k0 == 0))),(5,.int .i64 k0)] [] ?_;refine Fx.splitB (fun H1=>?_) (fun H1=>?_)
 ·skip
  exact Fx.wF (v:=.int .i64 k0) [1] [] (fun W M=>by have HB:=M.below;exact ⟨by simp_all,HB⟩)
 ·skip
  refine Fx.aL [2,1] 4 32 [(7,.int .i64 1),(9,.agg #[.string s3,.string s4])] [] fun dP=>?_;refine Fx.aO [5,5] 11 [] [(2,#[.string s3,.string s4])] K1 ?_;refine Fx.part 7 [] [(13,.bool (!(k1 == 0))),(5,.int .i64 k1)] [] ?_;refine Fx.splitB (fun H2=>?_) (fun H2=>?_)
  ·skip
   exact Fx.wF (v:=.int .i64 k1) [1] [] (fun W M=>by have HB:=M.below;exact ⟨by simp_all,HB⟩)
  ·skip
   refine Fx.aL [2,1] 4 32 [(7,.int .i64 2),(9,.agg #[.string s5,.string s6])] [] fun xM=>?_;refine Fx.aO [6,6] 11 [] [(3,#[.string s5,.string s6])] K2 ?_;refine Fx.part 7 [] [(13,.bool (!(k2 == 0))),(5,.int .i64 k2)] [] ?_;refine Fx.splitB (fun H3=>?_) (fun H3=>?_)
   ·skip
    exact Fx.wF (v:=.int .i64 k2) [1] [] (fun W M=>by have HB:=M.below;exact ⟨by simp_all,HB⟩)
   ·skip
    exact Fx.wF (v:=.int .i64 0) [2,2] [] (fun W M=>by have HB:=M.below;exact ⟨by simp_all,HB⟩)
theorem Gf (s1 s2 s3 s4 s5 s6:Int) (w:World):Calls Tryz.prog 68 #[.agg #[.int .i64 s1,.int .i64 s2,.int .i64 s3,.int .i64 s4,.int .i64 s5,.int .i64 s6]] w (fun e w'=>e= .returned (.int .i64 (Bo ((s1,s2),(s3,s4),(s5,s6))))∧Below w.heap.size w w'):=by
 have K0:∀ W,Calls Tryz.prog 151 #[.agg #[.int .i64 s1,.int .i64 s2]] W (fun e w'=>e= .returned (.int .i64 (sJ (s1,s2)))∧Below W.heap.size W w'):=fun W=>by unfold sJ;exact aW.gD s1 s2 W
 have K1:∀ W,Calls Tryz.prog 151 #[.agg #[.int .i64 s3,.int .i64 s4]] W (fun e w'=>e= .returned (.int .i64 (sJ (s3,s4)))∧Below W.heap.size W w'):=fun W=>by unfold sJ;exact aW.gD s3 s4 W
 have K2:∀ W,Calls Tryz.prog 151 #[.agg #[.int .i64 s5,.int .i64 s6]] W (fun e w'=>e= .returned (.int .i64 (sJ (s5,s6)))∧Below W.heap.size W w'):=fun W=>by unfold sJ;exact aW.gD s5 s6 W
 have e:Bo ((s1,s2),(s3,s4),(s5,s6))=if sJ (s1,s2)≠0 then sJ (s1,s2) else if sJ (s3,s4)≠0 then sJ (s3,s4) else sJ (s5,s6):=rfl
 rw [e];generalize sJ (s1,s2)=k0 at *;generalize sJ (s3,s4)=k1 at *;generalize sJ (s5,s6)=k2 at *;clear e;refine Fx.door Tryz.func68 rfl (.nil w []) ?_;refine Fx.new [] 1 #[.int .i64 s1,.int .i64 s2,.int .i64 s3,.int .i64 s4,.int .i64 s5,.int .i64 s6] 42 [] [] fun dW=>?_;refine Fx.aL [3,1] 4 40 [(6,.agg #[.int .i64 s1,.int .i64 s2,.int .i64 s3,.int .i64 s4,.int .i64 s5,.int .i64 s6]),(7,.int .i64 0),(9,.agg #[.int .i64 s1,.int .i64 s2])] [] fun dM=>?_;refine Fx.aO [4,4] 11 [] [(1,#[.int .i64 s1,.int .i64 s2])] K0 ?_;refine Fx.part 7 [] [(13,.bool (!(k0 == 0))),(5,.int .i64 k0)] [] ?_;refine Fx.splitB (fun H1=>?_) (fun H1=>?_)
 ·skip
  exact Fx.wF (v:=.int .i64 k0) [1] [] (fun W M=>by have HB:=M.below;exact ⟨by simp_all,HB⟩)
 ·skip
  refine Fx.aL [2,1] 4 40 [(7,.int .i64 1),(9,.agg #[.int .i64 s3,.int .i64 s4])] [] fun dP=>?_;refine Fx.aO [5,5] 11 [] [(2,#[.int .i64 s3,.int .i64 s4])] K1 ?_;refine Fx.part 7 [] [(13,.bool (!(k1 == 0))),(5,.int .i64 k1)] [] ?_;refine Fx.splitB (fun H2=>?_) (fun H2=>?_)
  ·skip
   exact Fx.wF (v:=.int .i64 k1) [1] [] (fun W M=>by have HB:=M.below;exact ⟨by simp_all,HB⟩)
  ·skip
   refine Fx.aL [2,1] 4 40 [(7,.int .i64 2),(9,.agg #[.int .i64 s5,.int .i64 s6])] [] fun xM=>?_;refine Fx.aO [6,6] 11 [] [(3,#[.int .i64 s5,.int .i64 s6])] K2 ?_;refine Fx.part 7 [] [(13,.bool (!(k2 == 0))),(5,.int .i64 k2)] [] ?_;refine Fx.splitB (fun H3=>?_) (fun H3=>?_)
   ·skip
    exact Fx.wF (v:=.int .i64 k2) [1] [] (fun W M=>by have HB:=M.below;exact ⟨by simp_all,HB⟩)
   ·skip
    exact Fx.wF (v:=.int .i64 0) [2,2] [] (fun W M=>by have HB:=M.below;exact ⟨by simp_all,HB⟩)
def oI (t:light.gK) (w:light.gK):((Int × Int) × (Int × Int) × (Int × Int)) × Int:=if light.lW t≠0 then (z3,light.lW t) else if light.nS w≠0 then (z3,light.nS w) else Ba t w
theorem ao7 {a1 a2 a3 a4 a5 a6:ByteArray} {b1 b2 b3 b4 b5 b6:ByteArray} {x1 x2 x3 x4 x5 x6:Int} {k:Int} (hx:eX (oI ⟨⟨a1,a2⟩,⟨a3,a4⟩,⟨a5,a6⟩⟩ ⟨⟨b1,b2⟩,⟨b3,b4⟩,⟨b5,b6⟩⟩) ((x1,x2),(x3,x4),(x5,x6)) k) (w:World) (ht:iR.Pow w) (he:whole.Er w) :
  Calls Tryz.prog 14 #[.agg #[.string a1,.string a2,.string a3,.string a4,.string a5,.string a6],.agg #[.string b1,.string b2,.string b3,.string b4,.string b5,.string b6]] w (Ip w (.agg #[.int .i64 x1,.int .i64 x2,.int .i64 x3,.int .i64 x4,.int .i64 x5,.int .i64 x6]) (.agg #[.int .i64 0,.int .i64 0,.int .i64 0,.int .i64 0,.int .i64 0,.int .i64 0]) k):=by
 have K1:∀ W,Calls Tryz.prog 42 #[.agg #[.string a1,.string a2,.string a3,.string a4,.string a5,.string a6]] W (fun e w'=>e= .returned (.int .i64 (light.lW ⟨⟨a1,a2⟩,⟨a3,a4⟩,⟨a5,a6⟩⟩))∧Below W.heap.size W w'):=fun W=>light.gD ⟨⟨a1,a2⟩,⟨a3,a4⟩,⟨a5,a6⟩⟩ W;have K2:∀ W,Calls Tryz.prog 43 #[.agg #[.string b1,.string b2,.string b3,.string b4,.string b5,.string b6]] W (fun e w'=>e= .returned (.int .i64 (light.nS ⟨⟨b1,b2⟩,⟨b3,b4⟩,⟨b5,b6⟩⟩))∧Below W.heap.size W w'):=fun W=>light.vw ⟨⟨b1,b2⟩,⟨b3,b4⟩,⟨b5,b6⟩⟩ W;have e0:oI ⟨⟨a1,a2⟩,⟨a3,a4⟩,⟨a5,a6⟩⟩ ⟨⟨b1,b2⟩,⟨b3,b4⟩,⟨b5,b6⟩⟩=if light.lW ⟨⟨a1,a2⟩,⟨a3,a4⟩,⟨a5,a6⟩⟩≠0 then (z3,light.lW ⟨⟨a1,a2⟩,⟨a3,a4⟩,⟨a5,a6⟩⟩) else if light.nS ⟨⟨b1,b2⟩,⟨b3,b4⟩,⟨b5,b6⟩⟩≠0 then (z3,light.nS ⟨⟨b1,b2⟩,⟨b3,b4⟩,⟨b5,b6⟩⟩) else Ba ⟨⟨a1,a2⟩,⟨a3,a4⟩,⟨a5,a6⟩⟩ ⟨⟨b1,b2⟩,⟨b3,b4⟩,⟨b5,b6⟩⟩:=rfl
 rw [e0] at hx;generalize light.lW ⟨⟨a1,a2⟩,⟨a3,a4⟩,⟨a5,a6⟩⟩=c at *;generalize light.nS ⟨⟨b1,b2⟩,⟨b3,b4⟩,⟨b5,b6⟩⟩=d at *;clear e0
 obtain ⟨g1,g2,g3,g4,g5,g6,hg⟩:∃ g1 g2 g3 g4 g5 g6:Int,(k=0∧Value.agg #[.int .i64 g1,.int .i64 g2,.int .i64 g3,.int .i64 g4,.int .i64 g5,.int .i64 g6]= .agg #[.int .i64 x1,.int .i64 x2,.int .i64 x3,.int .i64 x4,.int .i64 x5,.int .i64 x6])∨(k≠0∧Value.agg #[.int .i64 g1,.int .i64 g2,.int .i64 g3,.int .i64 g4,.int .i64 g5,.int .i64 g6]= .agg #[.int .i64 0,.int .i64 0,.int .i64 0,.int .i64 0,.int .i64 0,.int .i64 0]):=by
  by_cases h:k=0
  ·exact ⟨_,_,_,_,_,_,.inl ⟨h,rfl⟩⟩
  ·exact ⟨_,_,_,_,_,_,.inr ⟨h,rfl⟩⟩
 refine Fx.door Tryz.func14 rfl (.nil w []) ?_;refine Fx.new [] 2 #[.string a1,.string a2,.string a3,.string a4,.string a5,.string a6] 34 [] [] fun dW=>?_;refine Fx.new [] 3 #[.string b1,.string b2,.string b3,.string b4,.string b5,.string b6] 34 [] [] fun dM=>?_;refine Fx.aL [] 4 42 [] [] fun dP=>?_;refine Fx.aO [3] 9 [] [] K1 ?_;refine Fx.part 7 [] [(11,.bool (!(c == 0))),(6,.int .i64 c)] [] ?_;refine Fx.splitB (fun H1=>?_) (fun H1=>?_)
 ·skip
  exact Fx.dw (cs:=#[.int .i64 0,.int .i64 0,.int .i64 0,.int .i64 0,.int .i64 0,.int .i64 0]) (y:=.int .i64 c) 2 dP [1,5] [(2,#[.int .i64 0,.int .i64 0,.int .i64 0,.int .i64 0,.int .i64 0,.int .i64 0])] (fun W M=>by have HB:=M.below;first|(obtain ⟨rfl,h⟩:=pX hx H1;exact ⟨HB,.inr ⟨h,rfl⟩⟩)|(obtain ⟨rfl,h⟩:=pX (Fe hx H1) H2;exact ⟨HB,.inr ⟨h,rfl⟩⟩)|exact ⟨HB,hg.imp (fun h=>⟨h.1,by rw [h.2,h.1]⟩) fun h=>⟨h.1,by rw [h.2]⟩⟩)
 ·skip
  refine Fx.aO [2,4] 15 [] [] K2 ?_;refine Fx.part 7 [] [(17,.bool (!(d == 0))),(7,.int .i64 d)] [] ?_;refine Fx.splitB (fun H2=>?_) (fun H2=>?_)
  ·skip
   exact Fx.dw (cs:=#[.int .i64 0,.int .i64 0,.int .i64 0,.int .i64 0,.int .i64 0,.int .i64 0]) (y:=.int .i64 d) 2 dP [1,5] [(2,#[.int .i64 0,.int .i64 0,.int .i64 0,.int .i64 0,.int .i64 0,.int .i64 0])] (fun W M=>by have HB:=M.below;first|(obtain ⟨rfl,h⟩:=pX hx H1;exact ⟨HB,.inr ⟨h,rfl⟩⟩)|(obtain ⟨rfl,h⟩:=pX (Fe hx H1) H2;exact ⟨HB,.inr ⟨h,rfl⟩⟩)|exact ⟨HB,hg.imp (fun h=>⟨h.1,by rw [h.2,h.1]⟩) fun h=>⟨h.1,by rw [h.2]⟩⟩)
  ·skip
   refine Fx.call [2] 21 [] [] (fun W M=>Kq (QW (k:=k) W (fun V hV=>Ym (Fe (Fe hx H1) H2) V ((M.box (b:=dW) 0).later hV) ((M.box (b:=dM) 1).later hV) (ht.later (Bt M.below hV)) (he.later (Bt M.below hV))) (fun args W=>by kernel_rfl)) hg) ?_;exact Fx.dw (cs:=#[.int .i64 g1,.int .i64 g2,.int .i64 g3,.int .i64 g4,.int .i64 g5,.int .i64 g6]) (y:=.int .i64 k) 2 dP [5] [(2,#[.int .i64 g1,.int .i64 g2,.int .i64 g3,.int .i64 g4,.int .i64 g5,.int .i64 g6])] (fun W M=>by have HB:=M.below;first|(obtain ⟨rfl,h⟩:=pX hx H1;exact ⟨HB,.inr ⟨h,rfl⟩⟩)|(obtain ⟨rfl,h⟩:=pX (Fe hx H1) H2;exact ⟨HB,.inr ⟨h,rfl⟩⟩)|exact ⟨HB,hg.imp (fun h=>⟨h.1,by rw [h.2,h.1]⟩) fun h=>⟨h.1,by rw [h.2]⟩⟩)
def Fh (t:light.gK) (w:light.gK):light.gK × Int:=if yS t≠0 then (t0,yS t) else if light.nS w≠0 then (t0,light.nS w) else Uy t w
theorem XU {a1 a2 a3 a4 a5 a6:ByteArray} {b1 b2 b3 b4 b5 b6:ByteArray} {x1 x2 x3 x4 x5 x6:ByteArray} {k:Int} (hx:eX (Fh ⟨⟨a1,a2⟩,⟨a3,a4⟩,⟨a5,a6⟩⟩ ⟨⟨b1,b2⟩,⟨b3,b4⟩,⟨b5,b6⟩⟩) ⟨⟨x1,x2⟩,⟨x3,x4⟩,⟨x5,x6⟩⟩ k) (w:World) (ht:iR.Pow w) (he:whole.Er w) :
  Calls Tryz.prog 32 #[.agg #[.string a1,.string a2,.string a3,.string a4,.string a5,.string a6],.agg #[.string b1,.string b2,.string b3,.string b4,.string b5,.string b6]] w (Ip w (.agg #[.string x1,.string x2,.string x3,.string x4,.string x5,.string x6]) (.agg #[.string ⟨#[]⟩,.string ⟨#[]⟩,.string ⟨#[]⟩,.string ⟨#[]⟩,.string ⟨#[]⟩,.string ⟨#[]⟩]) k):=by
 have K1:∀ W,Calls Tryz.prog 79 #[.agg #[.string a1,.string a2,.string a3,.string a4,.string a5,.string a6]] W (fun e w'=>e= .returned (.int .i64 (yS ⟨⟨a1,a2⟩,⟨a3,a4⟩,⟨a5,a6⟩⟩))∧Below W.heap.size W w'):=fun W=>nY a1 a2 a3 a4 a5 a6 W;have K2:∀ W,Calls Tryz.prog 43 #[.agg #[.string b1,.string b2,.string b3,.string b4,.string b5,.string b6]] W (fun e w'=>e= .returned (.int .i64 (light.nS ⟨⟨b1,b2⟩,⟨b3,b4⟩,⟨b5,b6⟩⟩))∧Below W.heap.size W w'):=fun W=>light.vw ⟨⟨b1,b2⟩,⟨b3,b4⟩,⟨b5,b6⟩⟩ W;have e0:Fh ⟨⟨a1,a2⟩,⟨a3,a4⟩,⟨a5,a6⟩⟩ ⟨⟨b1,b2⟩,⟨b3,b4⟩,⟨b5,b6⟩⟩=if yS ⟨⟨a1,a2⟩,⟨a3,a4⟩,⟨a5,a6⟩⟩≠0 then (t0,yS ⟨⟨a1,a2⟩,⟨a3,a4⟩,⟨a5,a6⟩⟩) else if light.nS ⟨⟨b1,b2⟩,⟨b3,b4⟩,⟨b5,b6⟩⟩≠0 then (t0,light.nS ⟨⟨b1,b2⟩,⟨b3,b4⟩,⟨b5,b6⟩⟩) else Uy ⟨⟨a1,a2⟩,⟨a3,a4⟩,⟨a5,a6⟩⟩ ⟨⟨b1,b2⟩,⟨b3,b4⟩,⟨b5,b6⟩⟩:=rfl
 rw [e0] at hx;generalize yS ⟨⟨a1,a2⟩,⟨a3,a4⟩,⟨a5,a6⟩⟩=c at *;generalize light.nS ⟨⟨b1,b2⟩,⟨b3,b4⟩,⟨b5,b6⟩⟩=d at *;clear e0
 obtain ⟨g1,g2,g3,g4,g5,g6,hg⟩:∃ g1 g2 g3 g4 g5 g6:ByteArray,(k=0∧Value.agg #[.string g1,.string g2,.string g3,.string g4,.string g5,.string g6]= .agg #[.string x1,.string x2,.string x3,.string x4,.string x5,.string x6])∨(k≠0∧Value.agg #[.string g1,.string g2,.string g3,.string g4,.string g5,.string g6]= .agg #[.string ⟨#[]⟩,.string ⟨#[]⟩,.string ⟨#[]⟩,.string ⟨#[]⟩,.string ⟨#[]⟩,.string ⟨#[]⟩]):=by
  by_cases h:k=0
  ·exact ⟨_,_,_,_,_,_,.inl ⟨h,rfl⟩⟩
  ·exact ⟨_,_,_,_,_,_,.inr ⟨h,rfl⟩⟩
 refine Fx.door Tryz.func32 rfl (.nil w []) ?_;refine Fx.new [] 2 #[.string a1,.string a2,.string a3,.string a4,.string a5,.string a6] 34 [] [] fun dW=>?_;refine Fx.new [] 3 #[.string b1,.string b2,.string b3,.string b4,.string b5,.string b6] 34 [] [] fun dM=>?_;refine Fx.aL [] 4 34 [] [] fun dP=>?_;refine Fx.aO [3] 9 [] [] K1 ?_;refine Fx.part 7 [] [(11,.bool (!(c == 0))),(6,.int .i64 c)] [] ?_;refine Fx.splitB (fun H1=>?_) (fun H1=>?_)
 ·skip
  exact Fx.dw (cs:=#[.string ⟨#[]⟩,.string ⟨#[]⟩,.string ⟨#[]⟩,.string ⟨#[]⟩,.string ⟨#[]⟩,.string ⟨#[]⟩]) (y:=.int .i64 c) 2 dP [1,5] [(2,#[.string ⟨#[]⟩,.string ⟨#[]⟩,.string ⟨#[]⟩,.string ⟨#[]⟩,.string ⟨#[]⟩,.string ⟨#[]⟩])] (fun W M=>by have HB:=M.below;first|(obtain ⟨rfl,h⟩:=pX hx H1;exact ⟨HB,.inr ⟨h,rfl⟩⟩)|(obtain ⟨rfl,h⟩:=pX (Fe hx H1) H2;exact ⟨HB,.inr ⟨h,rfl⟩⟩)|exact ⟨HB,hg.imp (fun h=>⟨h.1,by rw [h.2,h.1]⟩) fun h=>⟨h.1,by rw [h.2]⟩⟩)
 ·skip
  refine Fx.aO [2,4] 15 [] [] K2 ?_;refine Fx.part 7 [] [(17,.bool (!(d == 0))),(7,.int .i64 d)] [] ?_;refine Fx.splitB (fun H2=>?_) (fun H2=>?_)
  ·skip
   exact Fx.dw (cs:=#[.string ⟨#[]⟩,.string ⟨#[]⟩,.string ⟨#[]⟩,.string ⟨#[]⟩,.string ⟨#[]⟩,.string ⟨#[]⟩]) (y:=.int .i64 d) 2 dP [1,5] [(2,#[.string ⟨#[]⟩,.string ⟨#[]⟩,.string ⟨#[]⟩,.string ⟨#[]⟩,.string ⟨#[]⟩,.string ⟨#[]⟩])] (fun W M=>by have HB:=M.below;first|(obtain ⟨rfl,h⟩:=pX hx H1;exact ⟨HB,.inr ⟨h,rfl⟩⟩)|(obtain ⟨rfl,h⟩:=pX (Fe hx H1) H2;exact ⟨HB,.inr ⟨h,rfl⟩⟩)|exact ⟨HB,hg.imp (fun h=>⟨h.1,by rw [h.2,h.1]⟩) fun h=>⟨h.1,by rw [h.2]⟩⟩)
  ·skip
   refine Fx.call [2] 21 [] [] (fun W M=>Kq (EO (k:=k) W (fun V hV=>QZ (Fe (Fe hx H1) H2) V ((M.box (b:=dW) 0).later hV) ((M.box (b:=dM) 1).later hV) (ht.later (Bt M.below hV))) (fun args W=>by kernel_rfl)) hg) ?_;exact Fx.dw (cs:=#[.string g1,.string g2,.string g3,.string g4,.string g5,.string g6]) (y:=.int .i64 k) 2 dP [5] [(2,#[.string g1,.string g2,.string g3,.string g4,.string g5,.string g6])] (fun W M=>by have HB:=M.below;first|(obtain ⟨rfl,h⟩:=pX hx H1;exact ⟨HB,.inr ⟨h,rfl⟩⟩)|(obtain ⟨rfl,h⟩:=pX (Fe hx H1) H2;exact ⟨HB,.inr ⟨h,rfl⟩⟩)|exact ⟨HB,hg.imp (fun h=>⟨h.1,by rw [h.2,h.1]⟩) fun h=>⟨h.1,by rw [h.2]⟩⟩)
def aA4 (t:light.gK):light.gK × Int:=if yS t≠0 then (t0,yS t) else encI t
theorem af0 {a1 a2 a3 a4 a5 a6 x1 x2 x3 x4 x5 x6:ByteArray} {k:Int} (hx:eX (aA4 ⟨⟨a1,a2⟩,⟨a3,a4⟩,⟨a5,a6⟩⟩) ⟨⟨x1,x2⟩,⟨x3,x4⟩,⟨x5,x6⟩⟩ k) (w:World) (ht:iR.Pow w) :
  Calls Tryz.prog 25 #[.agg #[.string a1,.string a2,.string a3,.string a4,.string a5,.string a6]] w (Ip w (.agg #[.string x1,.string x2,.string x3,.string x4,.string x5,.string x6]) (.agg #[.string ⟨#[]⟩,.string ⟨#[]⟩,.string ⟨#[]⟩,.string ⟨#[]⟩,.string ⟨#[]⟩,.string ⟨#[]⟩]) k):=by
 have K1:∀ W,Calls Tryz.prog 79 #[.agg #[.string a1,.string a2,.string a3,.string a4,.string a5,.string a6]] W (fun e w'=>e= .returned (.int .i64 (yS ⟨⟨a1,a2⟩,⟨a3,a4⟩,⟨a5,a6⟩⟩))∧Below W.heap.size W w'):=fun W=>nY a1 a2 a3 a4 a5 a6 W;have e0:aA4 ⟨⟨a1,a2⟩,⟨a3,a4⟩,⟨a5,a6⟩⟩=if yS ⟨⟨a1,a2⟩,⟨a3,a4⟩,⟨a5,a6⟩⟩≠0 then (t0,yS ⟨⟨a1,a2⟩,⟨a3,a4⟩,⟨a5,a6⟩⟩) else encI ⟨⟨a1,a2⟩,⟨a3,a4⟩,⟨a5,a6⟩⟩:=rfl
 rw [e0] at hx;generalize yS ⟨⟨a1,a2⟩,⟨a3,a4⟩,⟨a5,a6⟩⟩=c at *;clear e0
 obtain ⟨g1,g2,g3,g4,g5,g6,hg⟩:∃ g1 g2 g3 g4 g5 g6:ByteArray,(k=0∧Value.agg #[.string g1,.string g2,.string g3,.string g4,.string g5,.string g6]= .agg #[.string x1,.string x2,.string x3,.string x4,.string x5,.string x6])∨(k≠0∧Value.agg #[.string g1,.string g2,.string g3,.string g4,.string g5,.string g6]= .agg #[.string ⟨#[]⟩,.string ⟨#[]⟩,.string ⟨#[]⟩,.string ⟨#[]⟩,.string ⟨#[]⟩,.string ⟨#[]⟩]):=by
  by_cases h:k=0
  ·exact ⟨_,_,_,_,_,_,.inl ⟨h,rfl⟩⟩
  ·exact ⟨_,_,_,_,_,_,.inr ⟨h,rfl⟩⟩
 refine Fx.door Tryz.func25 rfl (.nil w []) ?_;refine Fx.new [] 1 #[.string a1,.string a2,.string a3,.string a4,.string a5,.string a6] 34 [] [] fun dW=>?_;refine Fx.aL [] 2 34 [] [] fun dM=>?_;refine Fx.aO [3] 6 [] [] K1 ?_;refine Fx.part 7 [] [(8,.bool (!(c == 0))),(4,.int .i64 c)] [] ?_;refine Fx.splitB (fun H1=>?_) (fun H1=>?_)
 ·skip
  exact Fx.dw (cs:=#[.string ⟨#[]⟩,.string ⟨#[]⟩,.string ⟨#[]⟩,.string ⟨#[]⟩,.string ⟨#[]⟩,.string ⟨#[]⟩]) (y:=.int .i64 c) 1 dM [1,4] [(1,#[.string ⟨#[]⟩,.string ⟨#[]⟩,.string ⟨#[]⟩,.string ⟨#[]⟩,.string ⟨#[]⟩,.string ⟨#[]⟩])] (fun W M=>by have HB:=M.below;first|(obtain ⟨rfl,h⟩:=pX hx H1;exact ⟨HB,.inr ⟨h,rfl⟩⟩)|exact ⟨HB,hg.imp (fun h=>⟨h.1,by rw [h.2,h.1]⟩) fun h=>⟨h.1,by rw [h.2]⟩⟩)
 ·skip
  refine Fx.call [2] 12 [] [] (fun W M=>Kq (EO (k:=k) W (fun V hV=>aA5 (Fe hx H1) V ((M.box (b:=dW) 0).later hV) (ht.later (Bt M.below hV))) (fun args W=>by kernel_rfl)) hg) ?_;exact Fx.dw (cs:=#[.string g1,.string g2,.string g3,.string g4,.string g5,.string g6]) (y:=.int .i64 k) 1 dM [4] [(1,#[.string g1,.string g2,.string g3,.string g4,.string g5,.string g6])] (fun W M=>by have HB:=M.below;first|(obtain ⟨rfl,h⟩:=pX hx H1;exact ⟨HB,.inr ⟨h,rfl⟩⟩)|exact ⟨HB,hg.imp (fun h=>⟨h.1,by rw [h.2,h.1]⟩) fun h=>⟨h.1,by rw [h.2]⟩⟩)
def Xf (a b:Int × Int):Bool:=decide (a.1=b.1)&&decide (a.2=b.2)
theorem Tv (a b c d:Int) (W:World):(Op.equalIn 10000 40 (.agg #[.int .i64 a,.int .i64 b]) (.agg #[.int .i64 c,.int .i64 d])).run Tryz.prog W= .ok (Xf (a,b) (c,d)) W:=by
 unfold Xf
 by_cases h1:a=c
 ·by_cases h2:b=d
  ·subst h1;subst h2;go_simp
  ·subst h1;go_simp
 ·go_simp
def TF (b1 b2:Int × Int):((Int × Int) × (Int × Int) × (Int × Int)) × Int :=
 aZ z3 (aW.ptE (0*1000000000000)) fun zero=>cond (Xf b1 zero&&Xf b2 zero) (aZ z3 (aW.ptE (1*1000000000000)) fun one=>wE (zero,one,zero))
  (aZ z3 (power.ak0 [b1,b2]) fun c=>if c.1=0 then (z3,7) else aZ z3 (TP b1 c) fun p=>aZ z3 (TP b2 c) fun q=>wE (c,p,q))
theorem MR {l1 l2 l3 l4 l5 l6 x1 x2 x3 x4 x5 x6 k:Int} {p:Nat} (hx:eX (TF (l3,l4) (l5,l6)) ((x1,x2),(x3,x4),(x5,x6)) k) (w:World)
  (hp:ah w p #[.int .i64 l1,.int .i64 l2,.int .i64 l3,.int .i64 l4,.int .i64 l5,.int .i64 l6] 42) (ht:iR.Pow w) (he:whole.Er w) :
  Calls Tryz.prog 70 #[.pointer (some ⟨p,0,none⟩)] w (Try w (.agg #[.int .i64 x1,.int .i64 x2,.int .i64 x3,.int .i64 x4,.int .i64 x5,.int .i64 x6]) k):=by
 unfold TF at hx;refine Fx.door Tryz.func70 rfl (.ro hp (.nil w [])) ?_;have HR:=hx;refine Fx.aL [] 1 118 [] [] fun dW=>?_;obtain ⟨⟨x2,y2⟩,_,EX,HN⟩:=aG HR;refine Fx.aX iT [] 5 [] [] (fun W M=>JQ (eX.of EX) _) HN fun _ HR=>?_;refine Fx.aL [] 2 40 [] [] fun dP=>?_;obtain ⟨f4,e4⟩:∃ f,Xf (l3,l4) (x2,y2)=f:=⟨_,rfl⟩;have q4:=fun W=>Tv l3 l4 x2 y2 W;rw [e4] at HR;simp only [e4] at q4;cases f4
 ·skip
  replace HR:=eX.cond_false HR;refine Fx.eql 9 [5,3,5] 9 true false 40 (.agg #[.int .i64 l3,.int .i64 l4]) (.agg #[.int .i64 x2,.int .i64 y2]) [] [(2,#[.int .i64 x2,.int .i64 y2])] q4 ?_;refine Fx.newS [0,0,2,3,3] 25 2 2 #[.int .i64 l3,.int .i64 l4,.int .i64 l5,.int .i64 l6] 40 [] [] fun Yc=>?_;obtain ⟨⟨x6,y6⟩,k6,EX,HN⟩:=aG HR;refine Fx.call [] 26 [] [] (fun W M=>ac6 EX _ (M.box (b:=Yc) (cs:=#[.int .i64 l3,.int .i64 l4,.int .i64 l5,.int .i64 l6]) 3) (ht.later M.below) (he.later M.below)) ?_;refine Fx.aX iT [] 29 [] [] (fun W M=>kR (x:=x6) (y:=y6) _) HN fun _ HR=>?_;refine Fx.aL [] 3 40 [] [] fun bz8=>?_;refine Fx.part 9 [7,7] [(32,.bool (x6 == 0))] [(4,#[.int .i64 x6,.int .i64 y6])] ?_;refine Fx.splitB (fun hf1=>?_) (fun hf1=>?_)
  ·skip
   replace HR:=eX.pos HR (by simpa using hf1);refine Fx.panics (v:=.iface 43 (.int .i64 7)) 5 [1] [] (fun W M=>?_);have HB:=M.below;obtain ⟨hk, -⟩:=HR;cases hk;exact ⟨HB,.inr ⟨by decide,rfl⟩⟩
  ·skip
   replace HR:=eX.neg HR (by simpa using hf1);refine Fx.draw [2] [0,1,2,3,5,6,7,4,8,9,10,11] [] [(4,.func (.func 72) #[] #[.pointer (some ⟨bz8,0,none⟩)])] [] ?_;obtain ⟨⟨x9,y9⟩,_,EX,HN⟩:=aG HR;refine Fx.aX iT [7,3,3] 39 [(35,.agg #[.int .i64 x6,.int .i64 y6]),(40,.func (.func 72) #[] #[.pointer (some ⟨bz8,0,none⟩)]),(42,.agg #[.int .i64 l5,.int .i64 l6])] [] (fun W M=>JU (eX.of EX) _ (M.box (b:=bz8) (cs:=#[.int .i64 x6,.int .i64 y6]) 4)) HN fun _ HR=>?_;obtain ⟨⟨x10,y10⟩,_,EX,HN⟩:=aG HR;refine Fx.aX iT [] 43 [] [] (fun W M=>JU (eX.of EX) _ (M.box (b:=bz8) (cs:=#[.int .i64 x6,.int .i64 y6]) 4)) HN fun _ HR=>?_;obtain ⟨hk,hv⟩:=HR;cases hk
   exact Fx.fV (cs:=#[.int .i64 x6,.int .i64 y6,.int .i64 x9,.int .i64 y9,.int .i64 x10,.int .i64 y10]) 1 dW [4] [(1,#[.int .i64 x6,.int .i64 y6,.int .i64 x9,.int .i64 y9,.int .i64 x10,.int .i64 y10])] (fun W M=>⟨M.below,.inl ⟨rfl,by cases hv rfl;rfl⟩⟩)
 ·skip
  refine Fx.eql 9 [5,3,5] 9 true true 40 (.agg #[.int .i64 l3,.int .i64 l4]) (.agg #[.int .i64 x2,.int .i64 y2]) [] [(2,#[.int .i64 x2,.int .i64 y2])] q4 ?_;obtain ⟨f11,e11⟩:∃ f,Xf (l5,l6) (x2,y2)=f:=⟨_,rfl⟩;have q11:=fun W=>Tv l5 l6 x2 y2 W;rw [e11] at HR;simp only [e11] at q11;cases f11
  ·skip
   replace HR:=eX.cond_false HR;refine Fx.eql 4 [3,5] 14 true false 40 (.agg #[.int .i64 l5,.int .i64 l6]) (.agg #[.int .i64 x2,.int .i64 y2]) [(10,.bool true)] [] q11 ?_;refine Fx.newS [2,3,3] 25 2 2 #[.int .i64 l3,.int .i64 l4,.int .i64 l5,.int .i64 l6] 40 [] [] fun ao2=>?_;obtain ⟨⟨x13,y13⟩,k13,EX,HN⟩:=aG HR;refine Fx.call [] 26 [] [] (fun W M=>ac6 EX _ (M.box (b:=ao2) (cs:=#[.int .i64 l3,.int .i64 l4,.int .i64 l5,.int .i64 l6]) 3) (ht.later M.below) (he.later M.below)) ?_;refine Fx.aX iT [] 29 [] [] (fun W M=>kR (x:=x13) (y:=y13) _) HN fun _ HR=>?_;refine Fx.aL [] 3 40 [] [] fun Xe=>?_;refine Fx.part 9 [7,7] [(32,.bool (x13 == 0))] [(4,#[.int .i64 x13,.int .i64 y13])] ?_;refine Fx.splitB (fun hf1=>?_) (fun hf1=>?_)
   ·skip
    replace HR:=eX.pos HR (by simpa using hf1);refine Fx.panics (v:=.iface 43 (.int .i64 7)) 5 [1] [] (fun W M=>?_);have HB:=M.below;obtain ⟨hk, -⟩:=HR;cases hk;exact ⟨HB,.inr ⟨by decide,rfl⟩⟩
   ·skip
    replace HR:=eX.neg HR (by simpa using hf1);refine Fx.draw [2] [0,1,2,3,5,6,7,4,8,9,10,11] [] [(4,.func (.func 72) #[] #[.pointer (some ⟨Xe,0,none⟩)])] [] ?_;obtain ⟨⟨x16,y16⟩,_,EX,HN⟩:=aG HR;refine Fx.aX iT [7,3,3] 39 [(35,.agg #[.int .i64 x13,.int .i64 y13]),(40,.func (.func 72) #[] #[.pointer (some ⟨Xe,0,none⟩)]),(42,.agg #[.int .i64 l5,.int .i64 l6])] [] (fun W M=>JU (eX.of EX) _ (M.box (b:=Xe) (cs:=#[.int .i64 x13,.int .i64 y13]) 4)) HN fun _ HR=>?_;obtain ⟨⟨x17,y17⟩,_,EX,HN⟩:=aG HR;refine Fx.aX iT [] 43 [] [] (fun W M=>JU (eX.of EX) _ (M.box (b:=Xe) (cs:=#[.int .i64 x13,.int .i64 y13]) 4)) HN fun _ HR=>?_;obtain ⟨hk,hv⟩:=HR;cases hk
    exact Fx.fV (cs:=#[.int .i64 x13,.int .i64 y13,.int .i64 x16,.int .i64 y16,.int .i64 x17,.int .i64 y17]) 1 dW [4] [(1,#[.int .i64 x13,.int .i64 y13,.int .i64 x16,.int .i64 y16,.int .i64 x17,.int .i64 y17])] (fun W M=>⟨M.below,.inl ⟨rfl,by cases hv rfl;rfl⟩⟩)
  ·skip
   replace HR:=eX.cond_true HR;refine Fx.eql 4 [3,5] 14 true true 40 (.agg #[.int .i64 l5,.int .i64 l6]) (.agg #[.int .i64 x2,.int .i64 y2]) [(10,.bool true)] [] q11 ?_;refine Fx.draw [1] [0,2,1,3,4,5] [] [] [] ?_;obtain ⟨⟨x18,y18⟩,_,EX,HN⟩:=aG HR;refine Fx.aX iT [5,5] 17 [(16,.agg #[.int .i64 x2,.int .i64 y2]),(18,.agg #[.int .i64 x2,.int .i64 y2])] [] (fun W M=>JQ (eX.of EX) _) HN fun _ HR=>?_;obtain ⟨hk,hv⟩:=HR;cases hk
   exact Fx.fV (cs:=#[.int .i64 x2,.int .i64 y2,.int .i64 x18,.int .i64 y18,.int .i64 x2,.int .i64 y2]) 1 dW [4] [(1,#[.int .i64 x2,.int .i64 y2,.int .i64 x18,.int .i64 y18,.int .i64 x2,.int .i64 y2])] (fun W M=>⟨M.below,.inl ⟨rfl,by cases hv rfl;rfl⟩⟩)
def av4 (l:(Int × Int) × (Int × Int) × (Int × Int)):((Int × Int) × (Int × Int) × (Int × Int)) × Int:=if Bo l≠0 then (z3,Bo l) else TF l.2.1 l.2.2
def aZ7 (w:World) (x1 x2 x3 x4 x5 x6 k:Int) (e:Ending) (w':World):Prop:=Below w.heap.size w w'∧((k=0∧e= .returned (.tuple #[.agg #[.int .i64 x1,.int .i64 x2],.agg #[.int .i64 x3,.int .i64 x4,.int .i64 x5,.int .i64 x6],.int .i64 0]))∨(k≠0∧e= .returned (.tuple #[.agg #[.int .i64 0,.int .i64 0],.agg #[.int .i64 0,.int .i64 0,.int .i64 0,.int .i64 0],.int .i64 k])))
theorem ap1 {a1 a2 a3 a4 a5 a6 x1 x2 x3 x4 x5 x6 k:Int} (hx:eX (av4 ((a1,a2),(a3,a4),(a5,a6))) ((x1,x2),(x3,x4),(x5,x6)) k) (w:World) (ht:iR.Pow w) (he:whole.Er w) :
  Calls Tryz.prog 22 #[.agg #[.int .i64 a1,.int .i64 a2,.int .i64 a3,.int .i64 a4,.int .i64 a5,.int .i64 a6]] w (aZ7 w x1 x2 x3 x4 x5 x6 k):=by
 have K1:∀ W,Calls Tryz.prog 68 #[.agg #[.int .i64 a1,.int .i64 a2,.int .i64 a3,.int .i64 a4,.int .i64 a5,.int .i64 a6]] W (fun e w'=>e= .returned (.int .i64 (Bo ((a1,a2),(a3,a4),(a5,a6))))∧Below W.heap.size W w'):=fun W=>Gf a1 a2 a3 a4 a5 a6 W;have e0:av4 ((a1,a2),(a3,a4),(a5,a6))=if Bo ((a1,a2),(a3,a4),(a5,a6))≠0 then (z3,Bo ((a1,a2),(a3,a4),(a5,a6))) else TF (a3,a4) (a5,a6):=rfl
 rw [e0] at hx;generalize Bo ((a1,a2),(a3,a4),(a5,a6))=c at *;clear e0
 by_cases h0:c=0
 rotate_left
 ·have hk:c=k:=(eX.pos hx h0).1;subst hk;refine Fx.door Tryz.func22 rfl (.nil w []) ?_;refine Fx.new [] 1 #[.int .i64 a1,.int .i64 a2,.int .i64 a3,.int .i64 a4,.int .i64 a5,.int .i64 a6] 42 [] [] fun dW=>?_;refine Fx.aL [] 2 40 [] [] fun dM=>?_;refine Fx.aL [] 3 70 [] [] fun dP=>?_;refine Fx.aO [3] 8 [] [] K1 ?_;refine Fx.part 7 [] [(10,.bool (!(c == 0))),(5,.int .i64 c)] [] ?_;refine Fx.jo true (by simp [h0]) ?_;exact Fx.PI 1 dM 2 dP [1,4,5] [(1,#[.int .i64 0,.int .i64 0]),(2,#[.int .i64 0,.int .i64 0,.int .i64 0,.int .i64 0])] (fun W M=>by have HB:=M.below;exact ⟨HB,.inr ⟨h0,rfl⟩⟩)
 subst h0;replace hx:=eX.neg hx zi
 by_cases h2:k=0
 ·skip
  refine Fx.door Tryz.func22 rfl (.nil w []) ?_;refine Fx.new [] 1 #[.int .i64 a1,.int .i64 a2,.int .i64 a3,.int .i64 a4,.int .i64 a5,.int .i64 a6] 42 [] [] fun dW=>?_;refine Fx.aL [] 2 40 [] [] fun dM=>?_;refine Fx.aL [] 3 70 [] [] fun dP=>?_;refine Fx.aO [3] 8 [] [] K1 ?_;refine Fx.call [2] 16 [] [] (fun W M=>am3 (Fa (k:=k) W (fun V hV=>MR (l1:=a1) (l2:=a2) hx V ((M.box (b:=dW) 0).later hV) (ht.later (Bt M.below hV)) (he.later (Bt M.below hV))) (fun args W=>by kernel_rfl)) h2) ?_;refine Fx.aL [] 6 118 [(17,.agg #[.int .i64 x1,.int .i64 x2,.int .i64 x3,.int .i64 x4,.int .i64 x5,.int .i64 x6]),(18,.int .i64 0)] [] fun xM=>?_;refine Fx.draw [6] [0,1,2,3,4,3005,6,5007] [1] [(4,.int .i64 0)] [(3,#[.int .i64 x1,.int .i64 x2,.int .i64 x3,.int .i64 x4,.int .i64 x5,.int .i64 x6])] ?_
  exact Fx.PI 1 dM 2 dP [6,6,4,5] [(1,#[.int .i64 x1,.int .i64 x2]),(2,#[.int .i64 x3,.int .i64 x4,.int .i64 x5,.int .i64 x6])] (fun W M=>by have HB:=M.below;exact ⟨HB,.inl ⟨h2,rfl⟩⟩)
 ·skip
  refine Fx.door Tryz.func22 rfl (.nil w []) ?_;refine Fx.new [] 1 #[.int .i64 a1,.int .i64 a2,.int .i64 a3,.int .i64 a4,.int .i64 a5,.int .i64 a6] 42 [] [] fun dW=>?_;refine Fx.aL [] 2 40 [] [] fun dM=>?_;refine Fx.aL [] 3 70 [] [] fun dP=>?_;refine Fx.aO [3] 8 [] [] K1 ?_;refine Fx.call [2] 16 [] [] (fun W M=>aA1 (Fa (k:=k) W (fun V hV=>MR (l1:=a1) (l2:=a2) hx V ((M.box (b:=dW) 0).later hV) (ht.later (Bt M.below hV)) (he.later (Bt M.below hV))) (fun args W=>by kernel_rfl)) h2) ?_;refine Fx.aL [] 6 118 [(17,.agg #[.int .i64 0,.int .i64 0,.int .i64 0,.int .i64 0,.int .i64 0,.int .i64 0]),(18,.int .i64 k)] [] fun xM=>?_;refine Fx.draw [6] [0,1,2,3,4,3005,6,5007] [1] [(4,.int .i64 k)] [(3,#[.int .i64 0,.int .i64 0,.int .i64 0,.int .i64 0,.int .i64 0,.int .i64 0])] ?_
  exact Fx.PI 1 dM 2 dP [6,6,4,5] [(1,#[.int .i64 0,.int .i64 0]),(2,#[.int .i64 0,.int .i64 0,.int .i64 0,.int .i64 0])] (fun W M=>by have HB:=M.below;exact ⟨HB,.inr ⟨h2,rfl⟩⟩)
end Go.Proofs.lab
namespace Go.Proofs.verdigrislaw24
open Go Go.RowKit Go.SW Go.Num Go.Mem Go.Proofs Go.Dec Go.fF Go.Proofs.lab Go.Proofs.bH
theorem rQ (a b c d e f:Int) (w:World):(Op.equalIn 10000 42 (.agg #[.int .i64 a,.int .i64 b,.int .i64 c,.int .i64 d,.int .i64 e,.int .i64 f]) (.agg #[.int .i64 a,.int .i64 b,.int .i64 c,.int .i64 d,.int .i64 e,.int .i64 f])).run Tryz.prog w= .ok true w:=by
 obtain ⟨i0,hi⟩:=Option.isSome_iff_exists.1 (show (Tryz.prog.info? 40).isSome=true by kernel_rfl);rw [run_equalIn_array w 9999 _ _ Tryz.underlying42 hi];have hc:Tryz.prog.cellsOf 40=2:=by kernel_rfl
 rw [hc];go_simp;simp only [Op.eqItems];go_simp
theorem wU {x y z d:Int} {s1 s2 s3 s4 s5 s6:ByteArray} (e:tq x y z d=⟨⟨s1,s2⟩,⟨s3,s4⟩,⟨s5,s6⟩⟩) (h:(sm x d&&sm y d&&sm z d)=true) (W:World) (ht:iR.Pow W) :
  Calls Tryz.prog 38 #[.int .i64 x,.int .i64 y,.int .i64 z,.int .i64 d] W (fun e w'=>e= .returned (.agg #[.string s1,.string s2,.string s3,.string s4,.string s5,.string s6])∧Below W.heap.size W w'):=by
 simp only [Bool.and_eq_true] at h;have:=au5 x y z d h.1.1 h.1.2 h.2 W ht;rw [e] at this;exact this
theorem oZ {x y z d p q r:Int} (hx:(-1000≤x∧x≤1000)∧(-1000≤y∧y≤1000)∧(-1000≤z∧z≤1000)∧(1≤d∧d≤1000)) (hp:PZ x d=p) (hq:PZ y d=q) (hr:PZ z d=r) (W:World) :
  Calls Tryz.prog 16 #[.int .i64 x,.int .i64 y,.int .i64 z,.int .i64 d] W (fun e w'=>e= .returned (.agg #[.int .i64 p,.int .i64 p,.int .i64 q,.int .i64 q,.int .i64 r,.int .i64 r])∧Below W.heap.size W w'):=by
 subst hp hq hr;exact Gf x y z d hx.1 hx.2.1 hx.2.2.1 hx.2.2.2 W
theorem QY {w w':World} {v z:Value} {k:Int} {e:Ending} (h:Ip w v z k e w') (hz:k≠0→v=z):e= .returned (.tuple #[v,.int .i64 k])∧Below w.heap.size w w':=by
 obtain ⟨hb,⟨rfl,rfl⟩|⟨hk,rfl⟩⟩:=h
 ·exact ⟨rfl,hb⟩
 ·rw [hz hk];exact ⟨rfl,hb⟩
theorem qP {t w:light.gK} {v:((Int × Int) × (Int × Int) × (Int × Int))} {k:Int} (h:oI t w=(v,k)) (W:World) (ht:iR.Pow W) (he:whole.Er W) (hz:k≠0→v=z3:=by decide) :
  Calls Tryz.prog 14 #[.agg #[.string t.x.n,.string t.x.d,.string t.y.n,.string t.y.d,.string t.z.n,.string t.z.d],.agg #[.string w.x.n,.string w.x.d,.string w.y.n,.string w.y.d,.string w.z.n,.string w.z.d]] W (fun e w'=>e= .returned (.tuple #[.agg #[.int .i64 v.1.1,.int .i64 v.1.2,.int .i64 v.2.1.1,.int .i64 v.2.1.2,.int .i64 v.2.2.1,.int .i64 v.2.2.2],.int .i64 k])∧Below W.heap.size W w') :=
 (ao7 (eX.of h) W ht he).mono fun _ _ g=>QY g fun hk=>by rw [hz hk];rfl
theorem Fg {t w:light.gK} {v:light.gK} {k:Int} (h:Fh t w=(v,k)) (W:World) (ht:iR.Pow W) (he:whole.Er W) (hz:k≠0→v=t0:=by decide) :
  Calls Tryz.prog 32 #[.agg #[.string t.x.n,.string t.x.d,.string t.y.n,.string t.y.d,.string t.z.n,.string t.z.d],.agg #[.string w.x.n,.string w.x.d,.string w.y.n,.string w.y.d,.string w.z.n,.string w.z.d]] W (fun e w'=>e= .returned (.tuple #[.agg #[.string v.x.n,.string v.x.d,.string v.y.n,.string v.y.d,.string v.z.n,.string v.z.d],.int .i64 k])∧Below W.heap.size W w') :=
 (XU (eX.of h) W ht he).mono fun _ _ g=>QY g fun hk=>by rw [hz hk];rfl
theorem encode_at {t v:light.gK} {k:Int} (h:aA4 t=(v,k)) (W:World) (ht:iR.Pow W) (hz:k≠0→v=t0:=by decide) :
  Calls Tryz.prog 25 #[.agg #[.string t.x.n,.string t.x.d,.string t.y.n,.string t.y.d,.string t.z.n,.string t.z.d]] W (fun e w'=>e= .returned (.tuple #[.agg #[.string v.x.n,.string v.x.d,.string v.y.n,.string v.y.d,.string v.z.n,.string v.z.d],.int .i64 k])∧Below W.heap.size W w') :=
 (af0 (eX.of h) W ht).mono fun _ _ g=>QY g fun hk=>by rw [hz hk];rfl
theorem MO {t v:(Int × Int) × (Int × Int) × (Int × Int)} {k:Int} (h:av4 t=(v,k)) (W:World) (ht:iR.Pow W) (he:whole.Er W) (hz:k≠0→v=z3:=by decide) :
  Calls Tryz.prog 22 #[.agg #[.int .i64 t.1.1,.int .i64 t.1.2,.int .i64 t.2.1.1,.int .i64 t.2.1.2,.int .i64 t.2.2.1,.int .i64 t.2.2.2]] W (fun e w'=>e= .returned (.tuple #[.agg #[.int .i64 v.1.1,.int .i64 v.1.2],.agg #[.int .i64 v.2.1.1,.int .i64 v.2.1.2,.int .i64 v.2.2.1,.int .i64 v.2.2.2],.int .i64 k])∧Below W.heap.size W w') :=
 (ap1 (eX.of h) W ht he).mono fun _ _ g=>by
  obtain ⟨hb,⟨rfl,rfl⟩|⟨hk,rfl⟩⟩:=g
  ·exact ⟨rfl,hb⟩
  ·rw [hz hk];exact ⟨rfl,hb⟩
theorem Yg (w:World) (ht:iR.Pow w) (he:whole.Er w):Calls Tryz.prog 10 #[] w (fun e w'=>e= .returned (.bool true)∧Below w.heap.size w w'):=by
 have HP:=zh ht;have HE:=zh he;clear ht he;obtain ⟨⟨⟨RY,RU⟩,⟨RQ,RP⟩,⟨RO,RJ⟩⟩,ET0⟩:∃ y,Hid (tq 1 1 1 1=y):=⟨_,zh rfl⟩;have C0:=hd (fun W h=>wU ET0.out (by decide+kernel) W h);obtain ⟨⟨⟨aO9,aO8⟩,⟨aO7,aO6⟩,⟨aO5,aO4⟩⟩,ET1⟩:∃ y,Hid (tq 9 10 11 10=y):=⟨_,zh rfl⟩;have C1:=hd (fun W h=>wU ET1.out (by decide+kernel) W h);have C2:=hd (fun W ht he=>qP (t:=⟨⟨aO9,aO8⟩,⟨aO7,aO6⟩,⟨aO5,aO4⟩⟩) (w:=⟨⟨aO9,aO8⟩,⟨aO7,aO6⟩,⟨aO5,aO4⟩⟩) (v:=((100000000000000,100000000000000),(0,0),(0,0))) (k:=0) (by rw [← ET1.out];decide+kernel) W ht he zd);obtain ⟨⟨⟨RG,Rz⟩,⟨Ry,Rx⟩,⟨Rw,Ru⟩⟩,ET2⟩:∃ y,Hid (tq 1 1 1 8=y):=⟨_,zh rfl⟩;have C3:=hd (fun W h=>wU ET2.out (by decide+kernel) W h)
 have C4:=hd (fun W ht he=>qP (t:=⟨⟨RG,Rz⟩,⟨Ry,Rx⟩,⟨Rw,Ru⟩⟩) (w:=⟨⟨RY,RU⟩,⟨RQ,RP⟩,⟨RO,RJ⟩⟩) (v:=((42000000000000,42000000000000),(0,0),(0,0))) (k:=0) (by rw [← ET2.out,← ET0.out];decide+kernel) W ht he zd);obtain ⟨⟨⟨aZ5,aZ4⟩,⟨aZ3,aZ2⟩,⟨aZ1,aZ0⟩⟩,ET3⟩:∃ y,Hid (tq 42 0 0 1=y):=⟨_,zh rfl⟩;have C5:=hd (fun W h=>wU ET3.out (by decide+kernel) W h);have C6:=hd (fun W ht he=>Fg (t:=⟨⟨aZ5,aZ4⟩,⟨aZ3,aZ2⟩,⟨aZ1,aZ0⟩⟩) (w:=⟨⟨RY,RU⟩,⟨RQ,RP⟩,⟨RO,RJ⟩⟩) (v:=⟨⟨RG,Rz⟩,⟨Ry,Rx⟩,⟨Rw,Ru⟩⟩) (k:=0) (by rw [← ET3.out,← ET0.out,← ET2.out];decide+kernel) W ht he (fun h=>absurd rfl h));obtain ⟨⟨⟨aY9,aY8⟩,⟨aY7,aY6⟩,⟨aY5,aY4⟩⟩,ET4⟩:∃ y,Hid (tq (-16) 0 0 1=y):=⟨_,zh rfl⟩;have C7:=hd (fun W h=>wU ET4.out (by decide+kernel) W h)
 have C8:=hd (fun W ht he=>Fg (t:=⟨⟨aY9,aY8⟩,⟨aY7,aY6⟩,⟨aY5,aY4⟩⟩) (w:=⟨⟨RY,RU⟩,⟨RQ,RP⟩,⟨RO,RJ⟩⟩) (v:=⟨⟨⟨#[]⟩,⟨#[]⟩⟩,⟨⟨#[]⟩,⟨#[]⟩⟩,⟨⟨#[]⟩,⟨#[]⟩⟩⟩) (k:=9) (by rw [← ET4.out,← ET0.out];decide+kernel) W ht he (fun _=>rfl));have C9:=hd (fun W=>oZ (x:=50) (y:=3) (z:=4) (d:=1) (p:=50000000000000) (q:=3000000000000) (r:=4000000000000) zd zd zd zd W);have C10:=hd (fun W ht he=>MO (t:=((50000000000000,50000000000000),(3000000000000,3000000000000),(4000000000000,4000000000000))) (v:=((5000000000000,5000000000000),(600000000000,600000000000),(800000000000,800000000000))) (k:=0) (by decide+kernel) W ht he);have C11:=hd (fun W=>oZ (x:=50) (y:=0) (z:=0) (d:=1) (p:=50000000000000) (q:=0) (r:=0) zd zd zd zd W)
 have C12:=hd (fun W ht he=>MO (t:=((50000000000000,50000000000000),(0,0),(0,0))) (v:=((0,0),(1000000000000,1000000000000),(0,0))) (k:=0) (by decide+kernel) W ht he);obtain ⟨⟨⟨aY3,aY2⟩,⟨aY1,aY0⟩,⟨aX9,aX8⟩⟩,ET5⟩:∃ y,Hid (tq 50 0 (-128) 1=y):=⟨_,zh rfl⟩;have C13:=hd (fun W h=>wU ET5.out (by decide+kernel) W h);obtain ⟨⟨⟨Xq,Xp⟩,⟨Xo,Xn⟩,⟨Xm,Xl⟩⟩,ET6⟩:∃ y,Hid (tq 1 1 0 2=y):=⟨_,zh rfl⟩;have C14:=hd (fun W ht=>encode_at (t:=⟨⟨aY3,aY2⟩,⟨aY1,aY0⟩,⟨aX9,aX8⟩⟩) (v:=⟨⟨Xq,Xp⟩,⟨Xo,Xn⟩,⟨Xm,Xl⟩⟩) (k:=0) (by rw [← ET5.out,← ET6.out];decide+kernel) W ht (fun h=>absurd rfl h));have C15:=hd (fun W=>oZ (x:=5) (y:=3) (z:=4) (d:=5) (p:=1000000000000) (q:=600000000000) (r:=800000000000) zd zd zd zd W);have C16:=hd (fun W=>oZ (x:=0) (y:=1) (z:=0) (d:=1) (p:=0) (q:=1000000000000) (r:=0) zd zd zd zd W)
 have C17:=hd (fun W=>oZ (x:=100) (y:=0) (z:=0) (d:=1) (p:=100000000000000) (q:=0) (r:=0) zd zd zd zd W);have C18:=hd (fun W=>oZ (x:=42) (y:=0) (z:=0) (d:=1) (p:=42000000000000) (q:=0) (r:=0) zd zd zd zd W);have C19:=hd (fun W=>oZ (x:=5) (y:=0) (z:=0) (d:=1) (p:=5000000000000) (q:=0) (r:=0) zd zd zd zd W);have C20:=hd (fun W h=>wU ET6.out (by decide+kernel) W h);refine Fx.door Tryz.func10 rfl (.nil w []) ?_;refine Fx.call [] 20 [] [] (fun W M=>C0.out _ (HP.out.later M.below)) ?_;refine Fx.aL [] 1 34 [] [] fun dW=>?_;refine Fx.call [3] 22 [] [(0,#[.string RY,.string RU,.string RQ,.string RP,.string RO,.string RJ])] (fun W M=>C1.out _ (HP.out.later M.below)) ?_;refine Fx.call [] 23 [] [] (fun W M=>C1.out _ (HP.out.later M.below)) ?_;refine Fx.call [] 24 [] [] (fun W M=>C2.out _ (HP.out.later M.below) (HE.out.later M.below)) ?_
 refine Fx.aL [] 2 42 [(25,.agg #[.int .i64 100000000000000,.int .i64 100000000000000,.int .i64 0,.int .i64 0,.int .i64 0,.int .i64 0]),(26,.int .i64 0)] [] fun dM=>?_;refine Fx.draw [4] [1,0,2,3,4,5,6,7,5008] [] [(3,.int .i64 0)] [(1,#[.int .i64 100000000000000,.int .i64 100000000000000,.int .i64 0,.int .i64 0,.int .i64 0,.int .i64 0])] ?_;refine Fx.call [3] 28 [(29,.agg #[.string RY,.string RU,.string RQ,.string RP,.string RO,.string RJ])] [] (fun W M=>C3.out _ (HP.out.later M.below)) ?_;refine Fx.call [] 30 [] [] (fun W M=>C4.out _ (HP.out.later M.below) (HE.out.later M.below)) ?_;refine Fx.sS [] 4 42 [(31,.agg #[.int .i64 42000000000000,.int .i64 42000000000000,.int .i64 0,.int .i64 0,.int .i64 0,.int .i64 0]),(32,.int .i64 0)] [] fun dP=>?_
 refine Fx.draw [5] [1,0,2,3,4,5,6,7,5008] [] [(5,.int .i64 0)] [(2,#[.int .i64 42000000000000,.int .i64 42000000000000,.int .i64 0,.int .i64 0,.int .i64 0,.int .i64 0])] ?_;refine Fx.call [3] 34 [(35,.agg #[.string RY,.string RU,.string RQ,.string RP,.string RO,.string RJ])] [] (fun W M=>C5.out _ (HP.out.later M.below)) ?_;refine Fx.call [] 36 [] [] (fun W M=>C6.out _ (HP.out.later M.below) (HE.out.later M.below)) ?_;refine Fx.sS [] 6 34 [(37,.agg #[.string RG,.string Rz,.string Ry,.string Rx,.string Rw,.string Ru]),(38,.int .i64 0)] [] fun xM=>?_;refine Fx.draw [6] [1,0,2,3,4,5,6,7,5008] [] [(7,.int .i64 0)] [(3,#[.string RG,.string Rz,.string Ry,.string Rx,.string Rw,.string Ru])] ?_;refine Fx.call [3] 40 [(41,.agg #[.string RY,.string RU,.string RQ,.string RP,.string RO,.string RJ])] [] (fun W M=>C7.out _ (HP.out.later M.below)) ?_
 refine Fx.call [] 42 [] [] (fun W M=>C8.out _ (HP.out.later M.below) (HE.out.later M.below)) ?_;refine Fx.sS [] 8 34 [(43,.agg #[.string (⟨#[]⟩),.string (⟨#[]⟩),.string (⟨#[]⟩),.string (⟨#[]⟩),.string (⟨#[]⟩),.string (⟨#[]⟩)]),(44,.int .i64 9)] [] fun Yc=>?_;refine Fx.call [7] 46 [(9,.int .i64 9)] [(4,#[.string (⟨#[]⟩),.string (⟨#[]⟩),.string (⟨#[]⟩),.string (⟨#[]⟩),.string (⟨#[]⟩),.string (⟨#[]⟩)])] (fun W M=>C9.out _) ?_;refine Fx.call [] 47 [] [] (fun W M=>C10.out _ (HP.out.later M.below) (HE.out.later M.below)) ?_;refine Fx.aL [] 10 40 [(48,.agg #[.int .i64 5000000000000,.int .i64 5000000000000]),(49,.agg #[.int .i64 600000000000,.int .i64 600000000000,.int .i64 800000000000,.int .i64 800000000000]),(50,.int .i64 0)] [] fun bz6=>?_;refine Fx.aL [] 11 70 [] [] fun bz7=>?_
 refine Fx.call [8,9] 52 [(12,.int .i64 0)] [(5,#[.int .i64 5000000000000,.int .i64 5000000000000]),(6,#[.int .i64 600000000000,.int .i64 600000000000,.int .i64 800000000000,.int .i64 800000000000])] (fun W M=>C11.out _) ?_;refine Fx.call [] 53 [] [] (fun W M=>C12.out _ (HP.out.later M.below) (HE.out.later M.below)) ?_;refine Fx.aL [] 13 40 [(54,.agg #[.int .i64 0,.int .i64 0]),(55,.agg #[.int .i64 1000000000000,.int .i64 1000000000000,.int .i64 0,.int .i64 0]),(56,.int .i64 0)] [] fun bz8=>?_;refine Fx.aL [] 14 70 [] [] fun bz9=>?_;refine Fx.call [10,11] 58 [(15,.int .i64 0)] [(7,#[.int .i64 0,.int .i64 0]),(8,#[.int .i64 1000000000000,.int .i64 1000000000000,.int .i64 0,.int .i64 0])] (fun W M=>C13.out _ (HP.out.later M.below)) ?_;refine Fx.call [] 59 [] [] (fun W M=>C14.out _ (HP.out.later M.below)) ?_
 refine Fx.aL [] 16 34 [(60,.agg #[.string Xq,.string Xp,.string Xo,.string Xn,.string Xm,.string Xl]),(61,.int .i64 0)] [] fun ao3=>?_;refine Fx.call [12] 62 [(17,.int .i64 0)] [(9,#[.string Xq,.string Xp,.string Xo,.string Xn,.string Xm,.string Xl])] (fun W M=>C15.out _) ?_;refine Fx.aL [] 18 42 [] [] fun aO2=>?_;refine Fx.call [13] 63 [] [(10,#[.int .i64 1000000000000,.int .i64 1000000000000,.int .i64 600000000000,.int .i64 600000000000,.int .i64 800000000000,.int .i64 800000000000])] (fun W M=>C16.out _) ?_;refine Fx.aL [] 19 42 [] [] fun ao2=>?_
 refine Fx.draw [14] [0,1,2,3,4,5,6,7,8,9,10,11,12,13,14,15,16,17,18,19,20,21,22,23,24,25,26,27,28,29,30,31,32,33,34,35,36,37,38,39,40,41,42,43,44,45,46,47,48,49,50,51,52,53,54,55,56,57,58,59,60,61,62,63,64,65,66,67,68,69,70,71,72,73,74,75,5076] [] [] [(11,#[.int .i64 0,.int .i64 0,.int .i64 1000000000000,.int .i64 1000000000000,.int .i64 0,.int .i64 0])] ?_;refine Fx.call [4] 68 [(66,.bool true),(67,.agg #[.int .i64 100000000000000,.int .i64 100000000000000,.int .i64 0,.int .i64 0,.int .i64 0,.int .i64 0])] [] (fun W M=>C17.out _) ?_;refine Fx.call [5] 77 [(75,.bool true),(76,.agg #[.int .i64 42000000000000,.int .i64 42000000000000,.int .i64 0,.int .i64 0,.int .i64 0,.int .i64 0])] [] (fun W M=>C18.out _) ?_;refine Fx.call [6] 86 [(84,.bool true),(85,.agg #[.string RG,.string Rz,.string Ry,.string Rx,.string Rw,.string Ru])] [] (fun W M=>C3.out _ (HP.out.later M.below)) ?_
 refine Fx.eql 0 [] 87 true true 34 (.agg #[.string RG,.string Rz,.string Ry,.string Rx,.string Rw,.string Ru]) (.agg #[.string RG,.string Rz,.string Ry,.string Rx,.string Rw,.string Ru]) [] [] (fun _=>uq _ _ _ _ _ _ _) ?_;refine Fx.call [8] 99 [(97,.bool true),(98,.agg #[.int .i64 5000000000000,.int .i64 5000000000000])] [] (fun W M=>C19.out _) ?_;refine Fx.call [9,13,13,10,14,11,14,14,12] 137 [(135,.bool true),(136,.agg #[.string Xq,.string Xp,.string Xo,.string Xn,.string Xm,.string Xl])] [] (fun W M=>C20.out _ (HP.out.later M.below)) ?_;refine Fx.eql 0 [] 138 true true 34 (.agg #[.string Xq,.string Xp,.string Xo,.string Xn,.string Xm,.string Xl]) (.agg #[.string Xq,.string Xp,.string Xo,.string Xn,.string Xm,.string Xl]) [] [] (fun _=>uq _ _ _ _ _ _ _) ?_;exact Fx.wF [] [] (fun W M=>⟨rfl,M.below⟩)
end Go.Proofs.verdigrislaw24
