/- Lemmas for the proof. No condition. -/
import Derived.Test.YtneajphgfdlmhaaGreatDoorQB18
import Derived.Test.YtneajphgfdlmhaaGreatDoorQB19
import Derived.Test.YtneajphgfdlmhaaGreatDoorQB25
import Derived.Defers
import Derived.Recover
import Derived.Tactics2
set_option linter.unusedVariables false
set_option linter.unusedSimpArgs false
set_option maxRecDepth 100000
set_option maxHeartbeats 16000000
open Go.Ending renaming returned → aj
open Go.IntKind renaming i64 → I
open Go.Value renaming agg → au, bool → ak, int → Z, pointer → aB, slice → ah, string → O, tuple → aG
open List renaming cons_append → dh, length_cons → bg, range → dz, set_cons_succ → aN, set_cons_zero → aM
open Nat renaming le_refl → aD
namespace Go.Proofs.lab
open Go Go.RowKit Go.SW Go.Num Go.Mem Go.Proofs Go.gD Go.Fx
def thrown (er:Int):Ending:=.panicked [{ v:=.iface 43 (Z I er),recovered:=false }]
abbrev Try:=Vl thrown
theorem jr (k:Int):∃ c,thrown k= .panicked c:=⟨_,rfl⟩
theorem uQ {s t:ByteArray} {k:Int} (w:World):Calls Tryz.prog 126 #[au #[O s,O t],Z I k] w (Try w (au #[O s,O t]) k):=by
 by_cases h:k=0
 ·subst h;go_enter Tryz.func126,Tryz.ntmps126
  go_wp2_with fail
  refine gF rfl rfl bf Tryz.underlying32 rfl zk ?_;exact ⟨aF,.inl ⟨rfl,rfl⟩⟩
 ·have b1:(k != 0)=true:=by simp [h]
  have H:=zh h;clear h;go_enter Tryz.func126,Tryz.ntmps126
  go_wp2_with fail
  exact ⟨rfl,aF,.inr ⟨H.out,rfl⟩⟩
theorem mR {x y:Int} {k:Int} (w:World):Calls Tryz.prog 49 #[au #[Z I x,Z I y],Z I k] w (Try w (au #[Z I x,Z I y]) k):=by
 by_cases h:k=0
 ·subst h;go_enter Tryz.func49,Tryz.ntmps49
  go_wp2_with fail
  refine gF rfl rfl bf Tryz.underlying40 rfl zk ?_;exact ⟨aF,.inl ⟨rfl,rfl⟩⟩
 ·have b1:(k != 0)=true:=by simp [h]
  have H:=zh h;clear h;go_enter Tryz.func49,Tryz.ntmps49
  go_wp2_with fail
  exact ⟨rfl,aF,.inr ⟨H.out,rfl⟩⟩
theorem A8 {v k:Int} (w:World):Calls Tryz.prog 103 #[Z I v,Z I k] w (Try w (Z I v) k):=by
 by_cases h:k=0
 ·subst h;go_enter Tryz.func103,Tryz.ntmps103
  go_wp2_with fail
  go_ret
  exact ⟨Below.refl _ _,.inl ⟨rfl,rfl⟩⟩
 ·have b1:(k != 0)=true:=by simp [h]
  have H:=zh h;clear h;go_enter Tryz.func103,Tryz.ntmps103
  go_wp2_with fail
  exact ⟨rfl,Below.refl _ _,.inr ⟨H.out,rfl⟩⟩
theorem Pk {s t s' t' y y':ByteArray} {k:Int} (hx:gB (qJ ⟨s,t⟩ ⟨s',t'⟩) ⟨y,y'⟩ k) (w:World) (ht:jH.Pow w) :
  Calls Tryz.prog 83 #[au #[O s,O t],au #[O s',O t']] w (Try w (au #[O y,O y']) k):=by
 refine Fx.door Tryz.func83 rfl (.nil w []) ?_;have HR:=hx;refine Fx.new [] 2 #[O s,O t] 32 [] [] fun gM=>?_;refine Fx.new [] 3 #[O (s'),O (t')] 32 [] [] fun gI=>?_;refine Fx.aY [] 4 32 [] [] fun gH=>?_;obtain ⟨⟨s4,t4⟩,k4,EX,HN⟩:=kD HR;refine Fx.call [3,4] 7 [] [] (fun W M=>aC8 EX _ (ht.later M.below)) ?_;refine Fx.dB jr [] 10 [] [] (fun W M=>uQ (s:=s4) (t:=t4) _) HN fun _ HR=>?_;obtain ⟨hk,hv⟩:=HR;cases hk
 exact Fx.iC (cs:=#[O s4,O t4]) 2 gH [5] [(2,#[O s4,O t4])] (fun W M=>⟨M.below,.inl ⟨rfl,by cases hv rfl;rfl⟩⟩)
theorem SN {s t s' t' y y':ByteArray} {k:Int} (hx:gB (rJ ⟨s,t⟩ ⟨s',t'⟩) ⟨y,y'⟩ k) (w:World) (ht:jH.Pow w) :
  Calls Tryz.prog 90 #[au #[O s,O t],au #[O s',O t']] w (Try w (au #[O y,O y']) k):=by
 refine Fx.door Tryz.func90 rfl (.nil w []) ?_;have HR:=hx;refine Fx.new [] 2 #[O s,O t] 32 [] [] fun gM=>?_;refine Fx.new [] 3 #[O (s'),O (t')] 32 [] [] fun gI=>?_;refine Fx.aY [] 4 32 [] [] fun gH=>?_;obtain ⟨⟨s4,t4⟩,k4,EX,HN⟩:=kD HR;refine Fx.call [3,4] 7 [] [] (fun W M=>aC3 EX _ (ht.later M.below)) ?_;refine Fx.dB jr [] 10 [] [] (fun W M=>uQ (s:=s4) (t:=t4) _) HN fun _ HR=>?_;obtain ⟨hk,hv⟩:=HR;cases hk
 exact Fx.iC (cs:=#[O s4,O t4]) 2 gH [5] [(2,#[O s4,O t4])] (fun W M=>⟨M.below,.inl ⟨rfl,by cases hv rfl;rfl⟩⟩)
theorem Ch {s t s' t' y y':ByteArray} {k:Int} (hx:gB (nH ⟨s,t⟩ ⟨s',t'⟩) ⟨y,y'⟩ k) (w:World) (ht:jH.Pow w) :
  Calls Tryz.prog 91 #[au #[O s,O t],au #[O s',O t']] w (Try w (au #[O y,O y']) k):=by
 refine Fx.door Tryz.func91 rfl (.nil w []) ?_;have HR:=hx;refine Fx.new [] 2 #[O s,O t] 32 [] [] fun gM=>?_;refine Fx.new [] 3 #[O (s'),O (t')] 32 [] [] fun gI=>?_;refine Fx.aY [] 4 32 [] [] fun gH=>?_;obtain ⟨⟨s4,t4⟩,k4,EX,HN⟩:=kD HR;refine Fx.call [3,4] 7 [] [] (fun W M=>aC5 EX _ (ht.later M.below)) ?_;refine Fx.dB jr [] 10 [] [] (fun W M=>uQ (s:=s4) (t:=t4) _) HN fun _ HR=>?_;obtain ⟨hk,hv⟩:=HR;cases hk
 exact Fx.iC (cs:=#[O s4,O t4]) 2 gH [5] [(2,#[O s4,O t4])] (fun W M=>⟨M.below,.inl ⟨rfl,by cases hv rfl;rfl⟩⟩)
theorem Ai {s t s' t' y y':ByteArray} {k:Int} (hx:gB (nk ⟨s,t⟩ ⟨s',t'⟩) ⟨y,y'⟩ k) (w:World) (ht:jH.Pow w) :
  Calls Tryz.prog 48 #[au #[O s,O t],au #[O s',O t']] w (Try w (au #[O y,O y']) k):=by
 refine Fx.door Tryz.func48 rfl (.nil w []) ?_;have HR:=hx;refine Fx.new [] 2 #[O s,O t] 32 [] [] fun gM=>?_;refine Fx.new [] 3 #[O (s'),O (t')] 32 [] [] fun gI=>?_;refine Fx.aY [] 4 32 [] [] fun gH=>?_;obtain ⟨⟨s4,t4⟩,k4,EX,HN⟩:=kD HR;refine Fx.call [3,4] 7 [] [] (fun W M=>aC6 EX _ (ht.later M.below)) ?_;refine Fx.dB jr [] 10 [] [] (fun W M=>uQ (s:=s4) (t:=t4) _) HN fun _ HR=>?_;obtain ⟨hk,hv⟩:=HR;cases hk
 exact Fx.iC (cs:=#[O s4,O t4]) 2 gH [5] [(2,#[O s4,O t4])] (fun W M=>⟨M.below,.inl ⟨rfl,by cases hv rfl;rfl⟩⟩)
theorem jA {n d:Int} {y y':ByteArray} {k:Int} (hx:gB (qM n d) ⟨y,y'⟩ k) (w:World) (ht:jH.Pow w) (n0: -9223372036854775808≤n:=by omega) (n1:n≤9223372036854775807:=by omega) (d0: -9223372036854775808≤d:=by omega) (d1:d≤9223372036854775807:=by omega) :
  Calls Tryz.prog 84 #[.int .i64 n,.int .i64 d] w (Try w (.agg #[.string y,.string y']) k):=by
 refine Fx.door Tryz.func84 rfl (.nil w []) ?_;have HR:=hx;refine Fx.aY [] 4 32 [] [] fun gM=>?_;obtain ⟨⟨s2,t2⟩,k2,EX,HN⟩:=kD HR;refine Fx.call [] 7 [] [] (fun W M=>cOf EX _ (ht.later M.below)) ?_;refine Fx.dB jr [] 10 [] [] (fun W M=>uQ (s:=s2) (t:=t2) _) HN fun _ HR=>?_;obtain ⟨hk,hv⟩:=HR;cases hk
 exact Fx.iC (cs:=#[.string s2,.string t2]) 0 gM [3] [(0,#[.string s2,.string t2])] (fun W M=>⟨M.below,.inl ⟨rfl,by cases hv rfl;rfl⟩⟩)
theorem Km {s t:ByteArray} {x y k:Int} (hx:gB (dH.jl ⟨s,t⟩) (x,y) k) (w:World) (ht:jH.Pow w) (he:whole.Er w) :
  Calls Tryz.prog 110 #[au #[O s,O t]] w (Try w (au #[Z I x,Z I y]) k):=by
 refine Fx.door Tryz.func110 rfl (.nil w []) ?_;have HR:=hx;refine Fx.new [] 1 #[O s,O t] 32 [] [] fun gM=>?_;refine Fx.aY [] 2 40 [] [] fun gI=>?_;obtain ⟨⟨x3,y3⟩,k3,EX,HN⟩:=kD HR;refine Fx.call [3] 4 [] [] (fun W M=>XV EX _ (ht.later M.below) (he.later M.below)) ?_;refine Fx.dB jr [] 7 [] [] (fun W M=>mR (x:=x3) (y:=y3) _) HN fun _ HR=>?_;obtain ⟨hk,hv⟩:=HR;cases hk
 exact Fx.iC (cs:=#[Z I x3,Z I y3]) 1 gI [4] [(1,#[Z I x3,Z I y3])] (fun W M=>⟨M.below,.inl ⟨rfl,by cases hv rfl;rfl⟩⟩)
def zD (a b:Fr):Bool × Int:=cK false (Hw a b) fun c=>nZ (decide (0<c))
theorem Pn {s t s' t':ByteArray} {v:Bool} {k:Int} (hx:gB (zD ⟨s,t⟩ ⟨s',t'⟩) v k) (w:World) :
  Calls Tryz.prog 123 #[au #[O s,O t],au #[O s',O t']] w (Try w (ak v) k):=by
 unfold zD at hx;refine Fx.door Tryz.func123 rfl (.nil w []) ?_;have HR:=hx;refine Fx.new [] 2 #[O s,O t] 32 [] [] fun gM=>?_;refine Fx.new [] 3 #[O (s'),O (t')] 32 [] [] fun gI=>?_;obtain ⟨v3,k3,EX,HN⟩:=aP HR;refine Fx.call [3,4] 7 [] [] (fun W M=>aC7 EX _) ?_;refine Fx.dB jr [] 10 [] [] (fun W M=>A8 (v:=v3) _) HN fun _ HR=>?_;obtain ⟨hk,hv⟩:=HR;cases hk
 exact Fx.qP (v:=ak (decide (0<v3))) [] [] (fun W M=>⟨M.below,.inl ⟨rfl,by cases hv rfl;rfl⟩⟩)
theorem Gv {n x y k:Int} (hx:gB (dH.VI (n*1000000000000)) (x,y) k) (w:World) (h1: -1000≤n:=by omega) (h2:n≤1000:=by omega) :
  Calls Tryz.prog 52 #[.int .i64 n] w (Try w (.agg #[.int .i64 x,.int .i64 y]) k):=by
 have hw:IntKind.i64.wrap (n*1000000000000)=n*1000000000000:=by rw [IntKind.wrap_i64];omega
 refine Fx.door Tryz.func52 rfl (.nil w []) ?_;have HR:=hx;refine Fx.aY [] 2 40 [] [] fun gM=>?_;refine Fx.part 6 [] [(4,.int .i64 (IntKind.i64.wrap (n*1000000000000)))] [] ?_;refine Fx.pU (.int .i64 (n*1000000000000)) (Fx.wrap_i64 zo zo) ?_;obtain ⟨⟨x2,y2⟩,k2,EX,HN⟩:=kD HR;refine Fx.call [] 5 [] [] (fun W M=>ae5 EX _) ?_;refine Fx.dB jr [] 8 [] [] (fun W M=>mR (x:=x2) (y:=y2) _) HN fun _ HR=>?_;obtain ⟨hk,hv⟩:=HR;cases hk
 exact Fx.iC (cs:=#[.int .i64 x2,.int .i64 y2]) 0 gM [3] [(0,#[.int .i64 x2,.int .i64 y2])] (fun W M=>⟨M.below,.inl ⟨rfl,by cases hv rfl;rfl⟩⟩)
theorem Gq {u v n d x y k:Int} (hx:gB (dH.I5 (u,v) n d) (x,y) k) (w:World) :
  Calls Tryz.prog 51 #[au #[Z I u,Z I v],Z I n,Z I d] w (Try w (au #[Z I x,Z I y]) k):=by
 refine Fx.door Tryz.func51 rfl (.nil w []) ?_;have HR:=hx;refine Fx.new [] 3 #[Z I u,Z I v] 40 [] [] fun gM=>?_;refine Fx.aY [] 6 40 [] [] fun gI=>?_;obtain ⟨⟨x3,y3⟩,k3,EX,HN⟩:=kD HR;refine Fx.call [3] 10 [] [] (fun W M=>XT EX _) ?_;refine Fx.dB jr [] 13 [] [] (fun W M=>mR (x:=x3) (y:=y3) _) HN fun _ HR=>?_;obtain ⟨hk,hv⟩:=HR;cases hk
 exact Fx.iC (cs:=#[Z I x3,Z I y3]) 1 gI [4] [(1,#[Z I x3,Z I y3])] (fun W M=>⟨M.below,.inl ⟨rfl,by cases hv rfl;rfl⟩⟩)
theorem FC (w:World):Calls Tryz.prog 47 #[] w (fun e w'=>e= aj (au #[.func (.func 122) #[] #[],.func (.func 125) #[] #[]])∧Below w.heap.size w w'):=by
 go_enter Tryz.func47,Tryz.ntmps47
 go_wp2_with fail
 refine gF rfl rfl bf Tryz.underlying93 rfl zk ?_;exact ⟨rfl,aF⟩
def MP (t:Fr):(Int × Int) × Int :=
 cK (0,0) (qM 216 24389) fun r=>cK (0,0) (zD t r) fun c=>cond c
  (cK (0,0) (dH.jl t) fun b=>cK (0,0) (power.ZC b.1 b.2 1 3) nZ)
  (cK (0,0) (qM 841 108) fun p=>cK (0,0) (nH p t) fun m=>cK (0,0) (qM 4 29) fun q=>cK (0,0) (qJ m q) fun s=>cK (0,0) (dH.jl s) nZ)
theorem Ho {s t:ByteArray} {x y k:Int} (hx:gB (MP ⟨s,t⟩) (x,y) k) (w:World) (ht:jH.Pow w) (he:whole.Er w) :
  Calls Tryz.prog 122 #[au #[O s,O t]] w (Try w (au #[Z I x,Z I y]) k):=by
 unfold MP at hx;refine Fx.door Tryz.func122 rfl (.nil w []) ?_;have HR:=hx;refine Fx.new [] 1 #[O s,O t] 32 [] [] fun gM=>?_;refine Fx.aY [] 2 40 [] [] fun gI=>?_;refine Fx.draw [] (dz 3) [] [] [] ?_;obtain ⟨⟨s3,t3⟩,_,EX,HN⟩:=aP HR;refine Fx.dB jr [3] 4 [(3,au #[O s,O t])] [] (fun W M=>jA (gB.of EX) _ (ht.later M.below)) HN fun _ HR=>?_;obtain ⟨v4,_,EX,HN⟩:=aP HR;refine Fx.dB jr [] 5 [] [] (fun W M=>Pn (gB.of EX) _) HN fun _ HR=>?_;cases v4
 ·skip
  replace HR:=gB.cond_false HR;refine Fx.draw [2] [1,0,2,3,4,5,6] [] [] [] ?_;obtain ⟨⟨s5,t5⟩,_,EX,HN⟩:=aP HR;refine Fx.dB jr [3] 12 [(13,au #[O s,O t])] [] (fun W M=>jA (gB.of EX) _ (ht.later M.below)) HN fun _ HR=>?_;obtain ⟨⟨s6,t6⟩,_,EX,HN⟩:=aP HR;refine Fx.dB jr [] 14 [] [] (fun W M=>Ch (gB.of EX) _ (ht.later M.below)) HN fun _ HR=>?_;obtain ⟨⟨s7,t7⟩,_,EX,HN⟩:=aP HR;refine Fx.dB jr [] 15 [] [] (fun W M=>jA (gB.of EX) _ (ht.later M.below)) HN fun _ HR=>?_;obtain ⟨⟨s8,t8⟩,_,EX,HN⟩:=aP HR;refine Fx.dB jr [] 16 [] [] (fun W M=>Pk (gB.of EX) _ (ht.later M.below)) HN fun _ HR=>?_;obtain ⟨⟨x9,y9⟩,_,EX,HN⟩:=aP HR;refine Fx.dB jr [] 17 [] [] (fun W M=>Km (gB.of EX) _ (ht.later M.below) (he.later M.below)) HN fun _ HR=>?_;obtain ⟨hk,hv⟩:=HR;cases hk
  exact Fx.iC (cs:=#[Z I x9,Z I y9]) 1 gI [4] [(1,#[Z I x9,Z I y9])] (fun W M=>⟨M.below,.inl ⟨rfl,by cases hv rfl;rfl⟩⟩)
 ·skip
  replace HR:=gB.cond_true HR;obtain ⟨⟨x10,Zi⟩,_,EX,HN⟩:=aP HR;refine Fx.dB jr [1,3] 7 [] [] (fun W M=>Km (gB.of EX) _ (ht.later M.below) (he.later M.below)) HN fun _ HR=>?_;obtain ⟨⟨x11,y11⟩,k11,EX,HN⟩:=aP HR;refine Fx.call [] 8 [] [] (fun W M=>ar3 EX _ (ht.later M.below) (he.later M.below)) ?_;refine Fx.dB jr [] 11 [] [] (fun W M=>mR (x:=x11) (y:=y11) _) HN fun _ HR=>?_;obtain ⟨hk,hv⟩:=HR;cases hk
  exact Fx.iC (cs:=#[Z I x11,Z I y11]) 1 gI [4] [(1,#[Z I x11,Z I y11])] (fun W M=>⟨M.below,.inl ⟨rfl,by cases hv rfl;rfl⟩⟩)
def uj (f:Fr):Fr × Int :=
 cK Fr.no (qM 6 29) fun r=>cK Fr.no (zD f r) fun c=>cond c
  (cK Fr.no (ZE f 3) nZ)
  (cK Fr.no (qM 108 841) fun p=>cK Fr.no (qM 4 29) fun q=>cK Fr.no (rJ f q) fun d=>cK Fr.no (nH p d) nZ)
theorem Rc {f r:Fr} {q:Rat} {k:Int} (h:zD f r=(true,k)) (hr:rd r=some q) (hq:0≤q):∃ p,rd f=some p∧0≤p:=by
 unfold zD Hw at h;cases hf:rd f with
 | none =>
  rw [hf] at h;have:(false,(20:Int))=(true,k):=h;cases this
 | some p =>
  rw [hf,hr] at h;have h2:(decide (0<oK p q),(0:Int))=(true,k):=h;have h3:decide (0<oK p q)=true:=congrArg Prod.fst h2;refine ⟨p,rfl,?_⟩;have h4:=of_decide_eq_true h3;unfold oK at h4;split at h4
  ·omega
  ·split at h4
   ·rename_i h5
    grind
   ·omega
theorem an2 {s t:ByteArray} (h:qM 6 29=(⟨s,t⟩,0)):rd ⟨s,t⟩=some (6 / 29):=by
 have e:qM 6 29=(Fr.of ((6:Int) / (29:Int):Rat),0):=by decide+kernel
 rw [e] at h;have h2:Fr.of ((6:Int) / (29:Int):Rat)=⟨s,t⟩:=congrArg Prod.fst h;rw [← h2];exact Oq (by decide+kernel)
theorem zl {s t y y':ByteArray} {k:Int} (hx:gB (uj ⟨s,t⟩) ⟨y,y'⟩ k) (w:World) (ht:jH.Pow w) :
  Calls Tryz.prog 125 #[au #[O s,O t]] w (Try w (au #[O y,O y']) k):=by
 unfold uj at hx;refine Fx.door Tryz.func125 rfl (.nil w []) ?_;have HR:=hx;refine Fx.new [] 1 #[O s,O t] 32 [] [] fun gM=>?_;refine Fx.aY [] 2 32 [] [] fun gI=>?_;refine Fx.draw [] (dz 3) [] [] [] ?_;obtain ⟨⟨s3,t3⟩,k3,EX,HN⟩:=aP HR;refine Fx.dB jr [3] 4 [(3,au #[O s,O t])] [] (fun W M=>jA (gB.of EX) _ (ht.later M.below)) HN fun h0 HR=>?_;subst h0;have E1:=EX;obtain ⟨v4,k4,EX,HN⟩:=aP HR;refine Fx.dB jr [] 5 [] [] (fun W M=>Pn (gB.of EX) _) HN fun h0 HR=>?_;subst h0;have E2:=EX;cases v4
 ·skip
  replace HR:=gB.cond_false HR;refine Fx.draw [2] [1,0,2,3,4,5] [] [] [] ?_;obtain ⟨⟨s5,t5⟩,k5,EX,HN⟩:=aP HR;refine Fx.dB jr [3] 11 [(12,au #[O s,O t])] [] (fun W M=>jA (gB.of EX) _ (ht.later M.below)) HN fun h0 HR=>?_;subst h0;obtain ⟨⟨s6,t6⟩,k6,EX,HN⟩:=aP HR;refine Fx.dB jr [] 13 [] [] (fun W M=>jA (gB.of EX) _ (ht.later M.below)) HN fun h0 HR=>?_;subst h0;obtain ⟨⟨s7,t7⟩,k7,EX,HN⟩:=aP HR;refine Fx.dB jr [] 14 [] [] (fun W M=>SN (gB.of EX) _ (ht.later M.below)) HN fun h0 HR=>?_;subst h0;obtain ⟨⟨s8,t8⟩,k8,EX,HN⟩:=aP HR;refine Fx.dB jr [] 15 [] [] (fun W M=>Ch (gB.of EX) _ (ht.later M.below)) HN fun h0 HR=>?_;subst h0;obtain ⟨hk,hv⟩:=HR;cases hk
  exact Fx.iC (cs:=#[O s8,O t8]) 1 gI [4] [(1,#[O s8,O t8])] (fun W M=>⟨M.below,.inl ⟨rfl,by cases hv rfl;rfl⟩⟩)
 ·skip
  replace HR:=gB.cond_true HR;obtain ⟨⟨s9,t9⟩,k9,EX,HN⟩:=aP HR;refine Fx.call [1,3] 7 [] [] (fun W M=>aC4 EX _ (ht.later M.below) (Rc E2 (an2 E1) (by decide+kernel))) ?_;refine Fx.dB jr [] 10 [] [] (fun W M=>uQ (s:=s9) (t:=t9) _) HN fun h0 HR=>?_;subst h0;obtain ⟨hk,hv⟩:=HR;cases hk
  exact Fx.iC (cs:=#[O s9,O t9]) 1 gI [4] [(1,#[O s9,O t9])] (fun W M=>⟨M.below,.inl ⟨rfl,by cases hv rfl;rfl⟩⟩)
def z3:(Int × Int) × (Int × Int) × (Int × Int):=((0,0),(0,0),(0,0))
def t0:light.iJ:=⟨Fr.no,Fr.no,Fr.no⟩
def BJ (f:Fr):Fr × Int:=cK Fr.no (qM 128 1) fun p=>cK Fr.no (qJ f p) fun s=>cK Fr.no (qM 256 1) fun q=>cK Fr.no (nk s q) nZ
def Ki (f:Fr):Fr × Int:=cK Fr.no (qM 256 1) fun p=>cK Fr.no (nH f p) fun s=>cK Fr.no (qM 128 1) fun q=>cK Fr.no (rJ s q) nZ
def encI (t:light.iJ):light.iJ × Int:=cK t0 (qM 100 1) fun h=>cK t0 (nk t.x h) fun a=>cK t0 (BJ t.y) fun b=>cK t0 (BJ t.z) fun c=>nZ ⟨a,b,c⟩
def JZ (t:light.iJ):light.iJ × Int:=cK t0 (qM 100 1) fun h=>cK t0 (nH t.x h) fun a=>cK t0 (Ki t.y) fun b=>cK t0 (Ki t.z) fun c=>nZ ⟨a,b,c⟩
theorem Oi {s t y y':ByteArray} {k:Int} (hx:gB (BJ ⟨s,t⟩) ⟨y,y'⟩ k) (w:World) (ht:jH.Pow w) :
  Calls Tryz.prog 82 #[au #[O s,O t]] w (Try w (au #[O y,O y']) k):=by
 unfold BJ at hx;refine Fx.door Tryz.func82 rfl (.nil w []) ?_;have HR:=hx;refine Fx.new [] 1 #[O s,O t] 32 [] [] fun gM=>?_;refine Fx.aY [] 2 32 [] [] fun gI=>?_;refine Fx.draw [] (dz 6) [] [] [] ?_;obtain ⟨⟨s3,t3⟩,_,EX,HN⟩:=aP HR;refine Fx.dB jr [3] 4 [(3,au #[O s,O t])] [] (fun W M=>jA (gB.of EX) _ (ht.later M.below)) HN fun _ HR=>?_;obtain ⟨⟨s4,t4⟩,_,EX,HN⟩:=aP HR;refine Fx.dB jr [] 5 [] [] (fun W M=>Pk (gB.of EX) _ (ht.later M.below)) HN fun _ HR=>?_;obtain ⟨⟨s5,t5⟩,_,EX,HN⟩:=aP HR;refine Fx.dB jr [] 6 [] [] (fun W M=>jA (gB.of EX) _ (ht.later M.below)) HN fun _ HR=>?_;obtain ⟨⟨s6,t6⟩,_,EX,HN⟩:=aP HR;refine Fx.dB jr [] 7 [] [] (fun W M=>Ai (gB.of EX) _ (ht.later M.below)) HN fun _ HR=>?_;obtain ⟨hk,hv⟩:=HR;cases hk
 exact Fx.iC (cs:=#[O s6,O t6]) 1 gI [4] [(1,#[O s6,O t6])] (fun W M=>⟨M.below,.inl ⟨rfl,by cases hv rfl;rfl⟩⟩)
theorem ac9 {a1 a2 a3 a4 a5 a6 y1 y2 y3 y4 y5 y6:ByteArray} {k:Int} {p:Nat} (hx:gB (encI ⟨⟨a1,a2⟩,⟨a3,a4⟩,⟨a5,a6⟩⟩) ⟨⟨y1,y2⟩,⟨y3,y4⟩,⟨y5,y6⟩⟩ k) (w:World)
  (hp:aA w p #[O a1,O a2,O a3,O a4,O a5,O a6] 34) (ht:jH.Pow w) :
  Calls Tryz.prog 81 #[aB (some ⟨p,0,none⟩)] w (Try w (au #[O y1,O y2,O y3,O y4,O y5,O y6]) k):=by
 unfold encI at hx;refine Fx.door Tryz.func81 rfl (.ro hp (.nil w [])) ?_;have HR:=hx;refine Fx.aY [] 1 34 [] [] fun gM=>?_;refine Fx.draw [] [0,1,4,5,6,8,9,10,2,3,7,11,12,13] [] [(2,.func (.func 82) #[] #[])] [] ?_;obtain ⟨⟨s2,t2⟩,_,EX,HN⟩:=aP HR;refine Fx.dB jr [3,3,3] 5 [(4,au #[O a1,O a2]),(7,.func (.func 82) #[] #[]),(9,au #[O a3,O a4]),(11,.func (.func 82) #[] #[]),(13,au #[O a5,O a6])] [] (fun W M=>jA (gB.of EX) _ (ht.later M.below)) HN fun _ HR=>?_;obtain ⟨⟨s3,t3⟩,_,EX,HN⟩:=aP HR;refine Fx.dB jr [] 6 [] [] (fun W M=>Ai (gB.of EX) _ (ht.later M.below)) HN fun _ HR=>?_;obtain ⟨⟨s4,t4⟩,_,EX,HN⟩:=aP HR;refine Fx.dB jr [] 10 [] [] (fun W M=>Oi (gB.of EX) _ (ht.later M.below)) HN fun _ HR=>?_;obtain ⟨⟨s5,t5⟩,_,EX,HN⟩:=aP HR
 refine Fx.dB jr [] 14 [] [] (fun W M=>Oi (gB.of EX) _ (ht.later M.below)) HN fun _ HR=>?_;obtain ⟨hk,hv⟩:=HR;cases hk
 exact Fx.iC (cs:=#[O s3,O t3,O s4,O t4,O s5,O t5]) 1 gM [4] [(1,#[O s3,O t3,O s4,O t4,O s5,O t5])] (fun W M=>⟨M.below,.inl ⟨rfl,by cases hv rfl;rfl⟩⟩)
theorem Vg {s t y y':ByteArray} {k:Int} (hx:gB (Ki ⟨s,t⟩) ⟨y,y'⟩ k) (w:World) (ht:jH.Pow w) :
  Calls Tryz.prog 89 #[au #[O s,O t]] w (Try w (au #[O y,O y']) k):=by
 unfold Ki at hx;refine Fx.door Tryz.func89 rfl (.nil w []) ?_;have HR:=hx;refine Fx.new [] 1 #[O s,O t] 32 [] [] fun gM=>?_;refine Fx.aY [] 2 32 [] [] fun gI=>?_;refine Fx.draw [] (dz 6) [] [] [] ?_;obtain ⟨⟨s3,t3⟩,_,EX,HN⟩:=aP HR;refine Fx.dB jr [3] 4 [(3,au #[O s,O t])] [] (fun W M=>jA (gB.of EX) _ (ht.later M.below)) HN fun _ HR=>?_;obtain ⟨⟨s4,t4⟩,_,EX,HN⟩:=aP HR;refine Fx.dB jr [] 5 [] [] (fun W M=>Ch (gB.of EX) _ (ht.later M.below)) HN fun _ HR=>?_;obtain ⟨⟨s5,t5⟩,_,EX,HN⟩:=aP HR;refine Fx.dB jr [] 6 [] [] (fun W M=>jA (gB.of EX) _ (ht.later M.below)) HN fun _ HR=>?_;obtain ⟨⟨s6,t6⟩,_,EX,HN⟩:=aP HR;refine Fx.dB jr [] 7 [] [] (fun W M=>SN (gB.of EX) _ (ht.later M.below)) HN fun _ HR=>?_;obtain ⟨hk,hv⟩:=HR;cases hk
 exact Fx.iC (cs:=#[O s6,O t6]) 1 gI [4] [(1,#[O s6,O t6])] (fun W M=>⟨M.below,.inl ⟨rfl,by cases hv rfl;rfl⟩⟩)
theorem ad5 {a1 a2 a3 a4 a5 a6 y1 y2 y3 y4 y5 y6:ByteArray} {k:Int} {p:Nat} (hx:gB (JZ ⟨⟨a1,a2⟩,⟨a3,a4⟩,⟨a5,a6⟩⟩) ⟨⟨y1,y2⟩,⟨y3,y4⟩,⟨y5,y6⟩⟩ k) (w:World)
  (hp:aA w p #[O a1,O a2,O a3,O a4,O a5,O a6] 34) (ht:jH.Pow w) :
  Calls Tryz.prog 88 #[aB (some ⟨p,0,none⟩)] w (Try w (au #[O y1,O y2,O y3,O y4,O y5,O y6]) k):=by
 unfold JZ at hx;refine Fx.door Tryz.func88 rfl (.ro hp (.nil w [])) ?_;have HR:=hx;refine Fx.aY [] 1 34 [] [] fun gM=>?_;refine Fx.draw [] [0,1,4,5,6,8,9,10,2,3,7,11,12,13] [] [(2,.func (.func 89) #[] #[])] [] ?_;obtain ⟨⟨s2,t2⟩,_,EX,HN⟩:=aP HR;refine Fx.dB jr [3,3,3] 5 [(4,au #[O a1,O a2]),(7,.func (.func 89) #[] #[]),(9,au #[O a3,O a4]),(11,.func (.func 89) #[] #[]),(13,au #[O a5,O a6])] [] (fun W M=>jA (gB.of EX) _ (ht.later M.below)) HN fun _ HR=>?_;obtain ⟨⟨s3,t3⟩,_,EX,HN⟩:=aP HR;refine Fx.dB jr [] 6 [] [] (fun W M=>Ch (gB.of EX) _ (ht.later M.below)) HN fun _ HR=>?_;obtain ⟨⟨s4,t4⟩,_,EX,HN⟩:=aP HR;refine Fx.dB jr [] 10 [] [] (fun W M=>Vg (gB.of EX) _ (ht.later M.below)) HN fun _ HR=>?_;obtain ⟨⟨s5,t5⟩,_,EX,HN⟩:=aP HR
 refine Fx.dB jr [] 14 [] [] (fun W M=>Vg (gB.of EX) _ (ht.later M.below)) HN fun _ HR=>?_;obtain ⟨hk,hv⟩:=HR;cases hk
 exact Fx.iC (cs:=#[O s3,O t3,O s4,O t4,O s5,O t5]) 1 gM [4] [(1,#[O s3,O t3,O s4,O t4,O s5,O t5])] (fun W M=>⟨M.below,.inl ⟨rfl,by cases hv rfl;rfl⟩⟩)
def XK (x w:Fr):(Int × Int) × Int:=cK (0,0) (nk x w) fun t=>cK (0,0) (MP t) nZ
theorem Lf {a1 a2 a3 a4 a5 a6 b1 b2 b3 b4 b5 b6:ByteArray} {x y k:Int} {p q:Nat} (hx:gB (XK ⟨a1,a2⟩ ⟨b1,b2⟩) (x,y) k) (w:World)
  (hp:aA w p #[O a1,O a2,O a3,O a4,O a5,O a6] 34) (hq:aA w q #[O b1,O b2,O b3,O b4,O b5,O b6] 34) (ht:jH.Pow w) (he:whole.Er w) :
  Calls Tryz.prog 46 #[Z I 0,aB (some ⟨p,0,none⟩),aB (some ⟨q,0,none⟩)] w (Try w (au #[Z I x,Z I y]) k):=by
 unfold XK at hx;refine Fx.door Tryz.func46 rfl (.ro hp (.ro hq (.nil w []))) ?_;have HR:=hx;refine Fx.aY [] 4 40 [] [] fun gM=>?_;refine Fx.draw [] [2,3,4,5,6,7,0,1,8,9,10] [] [] [] ?_;refine Fx.call [3,4] 5 [(9,au #[O a1,O a2]),(12,au #[O b1,O b2])] [] (fun W M=>FC _) ?_;obtain ⟨⟨s3,t3⟩,_,EX,HN⟩:=aP HR;refine Fx.dB jr [] 13 [(6,.func (.func 122) #[] #[])] [] (fun W M=>Ai (gB.of EX) _ (ht.later M.below)) HN fun _ HR=>?_;obtain ⟨⟨x4,y4⟩,_,EX,HN⟩:=aP HR;refine Fx.dB jr [] 14 [] [] (fun W M=>Ho (gB.of EX) _ (ht.later M.below) (he.later M.below)) HN fun _ HR=>?_;obtain ⟨hk,hv⟩:=HR;cases hk
 exact Fx.iC (cs:=#[Z I x4,Z I y4]) 2 gM [5] [(2,#[Z I x4,Z I y4])] (fun W M=>⟨M.below,.inl ⟨rfl,by cases hv rfl;rfl⟩⟩)
theorem Le {a1 a2 a3 a4 a5 a6 b1 b2 b3 b4 b5 b6:ByteArray} {x y k:Int} {p q:Nat} (hx:gB (XK ⟨a3,a4⟩ ⟨b3,b4⟩) (x,y) k) (w:World)
  (hp:aA w p #[O a1,O a2,O a3,O a4,O a5,O a6] 34) (hq:aA w q #[O b1,O b2,O b3,O b4,O b5,O b6] 34) (ht:jH.Pow w) (he:whole.Er w) :
  Calls Tryz.prog 46 #[Z I 1,aB (some ⟨p,0,none⟩),aB (some ⟨q,0,none⟩)] w (Try w (au #[Z I x,Z I y]) k):=by
 unfold XK at hx;refine Fx.door Tryz.func46 rfl (.ro hp (.ro hq (.nil w []))) ?_;have HR:=hx;refine Fx.aY [] 4 40 [] [] fun gM=>?_;refine Fx.draw [] [2,3,4,5,6,7,0,1,8,9,10] [] [] [] ?_;refine Fx.call [3,4] 5 [(9,au #[O a3,O a4]),(12,au #[O b3,O b4])] [] (fun W M=>FC _) ?_;obtain ⟨⟨s3,t3⟩,_,EX,HN⟩:=aP HR;refine Fx.dB jr [] 13 [(6,.func (.func 122) #[] #[])] [] (fun W M=>Ai (gB.of EX) _ (ht.later M.below)) HN fun _ HR=>?_;obtain ⟨⟨x4,y4⟩,_,EX,HN⟩:=aP HR;refine Fx.dB jr [] 14 [] [] (fun W M=>Ho (gB.of EX) _ (ht.later M.below) (he.later M.below)) HN fun _ HR=>?_;obtain ⟨hk,hv⟩:=HR;cases hk
 exact Fx.iC (cs:=#[Z I x4,Z I y4]) 2 gM [5] [(2,#[Z I x4,Z I y4])] (fun W M=>⟨M.below,.inl ⟨rfl,by cases hv rfl;rfl⟩⟩)
theorem Ld {a1 a2 a3 a4 a5 a6 b1 b2 b3 b4 b5 b6:ByteArray} {x y k:Int} {p q:Nat} (hx:gB (XK ⟨a5,a6⟩ ⟨b5,b6⟩) (x,y) k) (w:World)
  (hp:aA w p #[O a1,O a2,O a3,O a4,O a5,O a6] 34) (hq:aA w q #[O b1,O b2,O b3,O b4,O b5,O b6] 34) (ht:jH.Pow w) (he:whole.Er w) :
  Calls Tryz.prog 46 #[Z I 2,aB (some ⟨p,0,none⟩),aB (some ⟨q,0,none⟩)] w (Try w (au #[Z I x,Z I y]) k):=by
 unfold XK at hx;refine Fx.door Tryz.func46 rfl (.ro hp (.ro hq (.nil w []))) ?_;have HR:=hx;refine Fx.aY [] 4 40 [] [] fun gM=>?_;refine Fx.draw [] [2,3,4,5,6,7,0,1,8,9,10] [] [] [] ?_;refine Fx.call [3,4] 5 [(9,au #[O a5,O a6]),(12,au #[O b5,O b6])] [] (fun W M=>FC _) ?_;obtain ⟨⟨s3,t3⟩,_,EX,HN⟩:=aP HR;refine Fx.dB jr [] 13 [(6,.func (.func 122) #[] #[])] [] (fun W M=>Ai (gB.of EX) _ (ht.later M.below)) HN fun _ HR=>?_;obtain ⟨⟨x4,y4⟩,_,EX,HN⟩:=aP HR;refine Fx.dB jr [] 14 [] [] (fun W M=>Ho (gB.of EX) _ (ht.later M.below) (he.later M.below)) HN fun _ HR=>?_;obtain ⟨hk,hv⟩:=HR;cases hk
 exact Fx.iC (cs:=#[Z I x4,Z I y4]) 2 gM [5] [(2,#[Z I x4,Z I y4])] (fun W M=>⟨M.below,.inl ⟨rfl,by cases hv rfl;rfl⟩⟩)
def OH (t w:light.iJ):((Int × Int) × (Int × Int) × (Int × Int)) × Int :=
 cK z3 (XK t.x w.x) fun fx=>cK z3 (XK t.y w.y) fun fy=>cK z3 (XK t.z w.z) fun fz =>
 cK z3 (dH.I5 fy 116 1) fun s=>cK z3 (dH.VI (16*1000000000000)) fun p=>cK z3 (dH.Li s p) fun l =>
 cK z3 (dH.Li fx fy) fun d=>cK z3 (dH.I5 d 500 1) fun a=>cK z3 (dH.Li fy fz) fun g=>cK z3 (dH.I5 g 200 1) fun b=>nZ (l,a,b)
theorem Sq {a1 a2 a3 a4 a5 a6 b1 b2 b3 b4 b5 b6:ByteArray} {x1 x2 x3 x4 x5 x6 k:Int} {p q:Nat} (hx:gB (OH ⟨⟨a1,a2⟩,⟨a3,a4⟩,⟨a5,a6⟩⟩ ⟨⟨b1,b2⟩,⟨b3,b4⟩,⟨b5,b6⟩⟩) ((x1,x2),(x3,x4),(x5,x6)) k) (w:World)
  (hp:aA w p #[O a1,O a2,O a3,O a4,O a5,O a6] 34) (hq:aA w q #[O b1,O b2,O b3,O b4,O b5,O b6] 34) (ht:jH.Pow w) (he:whole.Er w) :
  Calls Tryz.prog 45 #[aB (some ⟨p,0,none⟩),aB (some ⟨q,0,none⟩)] w (Try w (au #[Z I x1,Z I x2,Z I x3,Z I x4,Z I x5,Z I x6]) k):=by
 unfold OH at hx;refine Fx.door Tryz.func45 rfl (.ro hp (.ro hq (.nil w []))) ?_;have HR:=hx;refine Fx.aY [] 2 42 [] [] fun gM=>?_;obtain ⟨⟨x2,y2⟩,_,EX,HN⟩:=aP HR;refine Fx.dB jr [] 9 [(3,.func (.func 46) #[] #[aB (some ⟨p,0,none⟩),aB (some ⟨q,0,none⟩)])] [] (fun W M=>Lf (gB.of EX) _ (M.box (b:=p) (cs:=#[O a1,O a2,O a3,O a4,O a5,O a6]) 0) (M.box (b:=q) (cs:=#[O b1,O b2,O b3,O b4,O b5,O b6]) 1) (ht.later M.below) (he.later M.below)) HN fun _ HR=>?_;obtain ⟨⟨x3,y3⟩,_,EX,HN⟩:=aP HR
 refine Fx.dB jr [] 11 [] [] (fun W M=>Le (gB.of EX) _ (M.box (b:=p) (cs:=#[O a1,O a2,O a3,O a4,O a5,O a6]) 0) (M.box (b:=q) (cs:=#[O b1,O b2,O b3,O b4,O b5,O b6]) 1) (ht.later M.below) (he.later M.below)) HN fun _ HR=>?_;obtain ⟨⟨x4,y4⟩,_,EX,HN⟩:=aP HR;refine Fx.dB jr [] 13 [] [] (fun W M=>Ld (gB.of EX) _ (M.box (b:=p) (cs:=#[O a1,O a2,O a3,O a4,O a5,O a6]) 0) (M.box (b:=q) (cs:=#[O b1,O b2,O b3,O b4,O b5,O b6]) 1) (ht.later M.below) (he.later M.below)) HN fun _ HR=>?_;refine Fx.aY [] 4 40 [] [] fun Iy=>?_;refine Fx.aY [] 5 40 [] [] fun VU=>?_;refine Fx.aY [] 6 40 [] [] fun Ke=>?_
 refine Fx.draw [6,7,8] [0,7,8,14,15,1,2,3,4,5,6,9,10,11,12,13,16,17,18,19,20,21,22] [] [] [(3,#[Z I x2,Z I y2]),(4,#[Z I x3,Z I y3]),(5,#[Z I x4,Z I y4])] ?_;obtain ⟨⟨x8,y8⟩,_,EX,HN⟩:=aP HR;refine Fx.dB jr [7,6,7,7,8] 15 [(21,au #[Z I x2,Z I y2]),(22,au #[Z I x3,Z I y3]),(28,au #[Z I x3,Z I y3]),(29,au #[Z I x4,Z I y4])] [] (fun W M=>Gq (gB.of EX) _) HN fun _ HR=>?_;obtain ⟨⟨x9,y9⟩,_,EX,HN⟩:=aP HR;refine Fx.dB jr [] 16 [] [] (fun W M=>Gv (gB.of EX) _) HN fun _ HR=>?_;obtain ⟨⟨x10,Zi⟩,k10,EX,HN⟩:=aP HR;refine Fx.call [] 17 [] [] (fun W M=>Va EX _) ?_;refine Fx.dB jr [] 20 [] [] (fun W M=>mR (x:=x10) (y:=Zi) _) HN fun _ HR=>?_;obtain ⟨⟨x12,y12⟩,k12,EX,HN⟩:=aP HR;refine Fx.call [] 23 [] [] (fun W M=>Va EX _) ?_
 refine Fx.dB jr [] 26 [] [] (fun W M=>mR (x:=x12) (y:=y12) _) HN fun _ HR=>?_;obtain ⟨⟨x14,y14⟩,_,EX,HN⟩:=aP HR;refine Fx.dB jr [] 27 [] [] (fun W M=>Gq (gB.of EX) _) HN fun _ HR=>?_;obtain ⟨⟨x15,y15⟩,k15,EX,HN⟩:=aP HR;refine Fx.call [] 30 [] [] (fun W M=>Va EX _) ?_;refine Fx.dB jr [] 33 [] [] (fun W M=>mR (x:=x15) (y:=y15) _) HN fun _ HR=>?_;obtain ⟨⟨x17,y17⟩,_,EX,HN⟩:=aP HR;refine Fx.dB jr [] 34 [] [] (fun W M=>Gq (gB.of EX) _) HN fun _ HR=>?_;obtain ⟨hk,hv⟩:=HR;cases hk
 exact Fx.iC (cs:=#[Z I x10,Z I Zi,Z I x14,Z I y14,Z I x17,Z I y17]) 2 gM [5] [(2,#[Z I x10,Z I Zi,Z I x14,Z I y14,Z I x17,Z I y17])] (fun W M=>⟨M.below,.inl ⟨rfl,by cases hv rfl;rfl⟩⟩)
end Go.Proofs.lab
namespace Go.Proofs
open Go Go.RowKit Go.SW Go.Num Go.Mem Go.gD
theorem U9 {x y u v a b k:Int} {q:Nat} (hx:power.qQ [(x,y),(u,v)]=((a,b),k)) (w:World) (hq:aA w q #[Z I x,Z I y,Z I u,Z I v] 40) (ht:jH.Pow w) (he:whole.Er w):Calls Tryz.prog 71 #[ah (some ⟨q,0,none⟩) 2 2] w (fun e w'=>e= aj (aG #[au #[Z I a,Z I b],Z I k])∧Below w.heap.size w w'):=by
 have h:=power.Ig _ _ [(x,y),(u,v)] w (wY.two hq) ht he;rw [hx] at h;exact h
end Go.Proofs
namespace Go.Proofs.lab
open Go Go.RowKit Go.SW Go.Num Go.Mem Go.Proofs Go.gD Go.Fx
def O5 (t w:light.iJ):light.iJ × Int :=
 cK t0 (qM 16 1) fun h=>cK t0 (qJ t.x h) fun s=>cK t0 (qM 116 1) fun d=>cK t0 (nk s d) fun y =>
 cK t0 (qM 500 1) fun d1=>cK t0 (nk t.y d1) fun a=>cK t0 (qJ y a) fun x =>
 cK t0 (qM 200 1) fun d2=>cK t0 (nk t.z d2) fun b=>cK t0 (rJ y b) fun z =>
 cK t0 (uj x) fun p=>cK t0 (nH p w.x) fun o1=>cK t0 (uj y) fun q=>cK t0 (nH q w.y) fun o2=>cK t0 (uj z) fun r=>cK t0 (nH r w.z) fun o3 =>
 cK t0 (kF o1) fun c1=>if c1<0 then (t0,9) else cK t0 (kF o2) fun c2=>if c2<0 then (t0,9) else cK t0 (kF o3) fun c3=>if c3<0 then (t0,9) else nZ ⟨o1,o2,o3⟩
theorem MK {a1 a2 a3 a4 a5 a6 b1 b2 b3 b4 b5 b6 y1 y2 y3 y4 y5 y6:ByteArray} {k:Int} {p q:Nat} (hx:gB (O5 ⟨⟨a1,a2⟩,⟨a3,a4⟩,⟨a5,a6⟩⟩ ⟨⟨b1,b2⟩,⟨b3,b4⟩,⟨b5,b6⟩⟩) ⟨⟨y1,y2⟩,⟨y3,y4⟩,⟨y5,y6⟩⟩ k) (w:World)
  (hp:aA w p #[O a1,O a2,O a3,O a4,O a5,O a6] 34) (hq:aA w q #[O b1,O b2,O b3,O b4,O b5,O b6] 34) (ht:jH.Pow w) :
  Calls Tryz.prog 102 #[aB (some ⟨p,0,none⟩),aB (some ⟨q,0,none⟩)] w (Try w (au #[O y1,O y2,O y3,O y4,O y5,O y6]) k):=by
 unfold O5 at hx;refine Fx.door Tryz.func102 rfl (.ro hp (.ro hq (.nil w []))) ?_;have HR:=hx;refine Fx.aY [] 2 34 [] [] fun gM=>?_;refine Fx.draw [] (dz 8) [] [] [] ?_;obtain ⟨⟨s2,t2⟩,_,EX,HN⟩:=aP HR;refine Fx.dB jr [3] 13 [(12,au #[O a1,O a2])] [] (fun W M=>jA (gB.of EX) _ (ht.later M.below)) HN fun _ HR=>?_;obtain ⟨⟨s3,t3⟩,_,EX,HN⟩:=aP HR;refine Fx.dB jr [] 14 [] [] (fun W M=>Pk (gB.of EX) _ (ht.later M.below)) HN fun _ HR=>?_;obtain ⟨⟨s4,t4⟩,_,EX,HN⟩:=aP HR;refine Fx.dB jr [] 15 [] [] (fun W M=>jA (gB.of EX) _ (ht.later M.below)) HN fun _ HR=>?_;obtain ⟨⟨s5,t5⟩,_,EX,HN⟩:=aP HR;refine Fx.dB jr [] 16 [] [] (fun W M=>Ai (gB.of EX) _ (ht.later M.below)) HN fun _ HR=>?_;refine Fx.sK [] 3 32 [] [] fun VU=>?_;refine Fx.draw [6] (dz 8) [] [] [(3,#[O s5,O t5])] ?_
 obtain ⟨⟨s7,t7⟩,_,EX,HN⟩:=aP HR;refine Fx.dB jr [6,3] 20 [(17,au #[O s5,O t5]),(19,au #[O a3,O a4])] [] (fun W M=>jA (gB.of EX) _ (ht.later M.below)) HN fun _ HR=>?_;obtain ⟨⟨s8,t8⟩,_,EX,HN⟩:=aP HR;refine Fx.dB jr [] 21 [] [] (fun W M=>Ai (gB.of EX) _ (ht.later M.below)) HN fun _ HR=>?_;obtain ⟨⟨s9,t9⟩,_,EX,HN⟩:=aP HR;refine Fx.dB jr [] 22 [] [] (fun W M=>Pk (gB.of EX) _ (ht.later M.below)) HN fun _ HR=>?_;refine Fx.sK [] 4 32 [] [] fun XW=>?_;refine Fx.draw [7] (dz 8) [] [] [(4,#[O s9,O t9])] ?_;obtain ⟨⟨s11,t11⟩,_,EX,HN⟩:=aP HR;refine Fx.dB jr [6,3] 26 [(23,au #[O s5,O t5]),(25,au #[O a5,O a6])] [] (fun W M=>jA (gB.of EX) _ (ht.later M.below)) HN fun _ HR=>?_;obtain ⟨⟨s12,t12⟩,_,EX,HN⟩:=aP HR
 refine Fx.dB jr [] 27 [] [] (fun W M=>Ai (gB.of EX) _ (ht.later M.below)) HN fun _ HR=>?_;obtain ⟨⟨s13,t13⟩,_,EX,HN⟩:=aP HR;refine Fx.dB jr [] 28 [] [] (fun W M=>SN (gB.of EX) _ (ht.later M.below)) HN fun _ HR=>?_;refine Fx.sK [] 5 32 [] [] fun aD3=>?_;refine Fx.aY [8] 6 34 [] [(5,#[O s13,O t13])] fun Q6=>?_;refine Fx.aY [7,6,8,1] 8 32 [(32,au #[O s9,O t9,O s5,O t5,O s13,O t13]),(33,Z I 0),(35,Z I 0),(36,au #[O s9,O t9])] [] fun aD2=>?_;refine Fx.draw [10] [0,3,5,6,7,1,2,4,8,9,10] [] [(7,Z I 0)] [(7,#[O s9,O t9])] ?_;refine Fx.call [10,4] 38 [(37,Z I 0),(40,au #[O s9,O t9]),(44,au #[O b1,O b2])] [] (fun W M=>FC _) ?_;obtain ⟨⟨s18,t18⟩,_,EX,HN⟩:=aP HR
 refine Fx.dB jr [] 41 [] [] (fun W M=>zl (gB.of EX) _ (ht.later M.below)) HN fun _ HR=>?_;obtain ⟨⟨YG,YF⟩,_,EX,HN⟩:=aP HR;refine Fx.dB jr [] 45 [] [] (fun W M=>Ch (gB.of EX) _ (ht.later M.below)) HN fun _ HR=>?_;refine Fx.aY [9,1] 8 32 [(33,Z I 1),(35,Z I 1),(36,au #[O s5,O t5])] [(6,#[O YG,O YF,O ⟨#[]⟩,O ⟨#[]⟩,O ⟨#[]⟩,O ⟨#[]⟩])] fun aD1=>?_;refine Fx.draw [11] [0,3,5,6,7,1,2,4,8,9,10] [] [(7,Z I 1)] [(8,#[O s5,O t5])] ?_;refine Fx.call [11,4] 38 [(37,Z I 1),(40,au #[O s5,O t5]),(44,au #[O b3,O b4])] [] (fun W M=>FC _) ?_;obtain ⟨⟨s22,t22⟩,_,EX,HN⟩:=aP HR;refine Fx.dB jr [] 41 [] [] (fun W M=>zl (gB.of EX) _ (ht.later M.below)) HN fun _ HR=>?_;obtain ⟨⟨Zy,t23⟩,_,EX,HN⟩:=aP HR
 refine Fx.dB jr [] 45 [] [] (fun W M=>Ch (gB.of EX) _ (ht.later M.below)) HN fun _ HR=>?_;refine Fx.aY [9,1] 8 32 [(33,Z I 2),(35,Z I 2),(36,au #[O s13,O t13])] [(6,#[O YG,O YF,O Zy,O t23,O ⟨#[]⟩,O ⟨#[]⟩])] fun aD0=>?_;refine Fx.draw [12] [0,3,5,6,7,1,2,4,8,9,10] [] [(7,Z I 2)] [(9,#[O s13,O t13])] ?_;refine Fx.call [12,4] 38 [(37,Z I 2),(40,au #[O s13,O t13]),(44,au #[O b5,O b6])] [] (fun W M=>FC _) ?_;obtain ⟨⟨s26,t26⟩,_,EX,HN⟩:=aP HR;refine Fx.dB jr [] 41 [] [] (fun W M=>zl (gB.of EX) _ (ht.later M.below)) HN fun _ HR=>?_;obtain ⟨⟨s27,t27⟩,_,EX,HN⟩:=aP HR;refine Fx.dB jr [] 45 [] [] (fun W M=>Ch (gB.of EX) _ (ht.later M.below)) HN fun _ HR=>?_
 refine Fx.aY [9,2,9,1] 10 32 [(33,Z I 3),(48,au #[O YG,O YF,O Zy,O t23,O s27,O t27]),(49,Z I 0),(51,au #[O YG,O YF])] [(6,#[O YG,O YF,O Zy,O t23,O s27,O t27])] fun aC9=>?_;obtain ⟨v29,k29,EX,HN⟩:=aP HR;refine Fx.call [13,13] 53 [] [(10,#[O YG,O YF])] (fun W M=>U8 EX _) ?_;refine Fx.dB jr [] 56 [] [] (fun W M=>A8 (v:=v29) _) HN fun _ HR=>?_;refine Fx.part 1 [] [(57,ak (decide (v29<0)))] [] ?_;refine Fx.splitB (fun hf1=>?_) (fun hf1=>?_)
 ·skip
  replace HR:=gB.pos HR (of_decide_eq_true hf1);refine Fx.panics (v:=.iface 43 (Z I 9)) 5 [1] [] (fun W M=>?_);have HB:=M.below;obtain ⟨hk, -⟩:=HR;cases hk;exact ⟨HB,.inr ⟨by decide,rfl⟩⟩
 ·skip
  replace HR:=gB.neg HR (of_decide_eq_false hf1);refine Fx.aY [2,1] 10 32 [(49,Z I 1),(51,au #[O Zy,O t23])] [] fun aR9=>?_;obtain ⟨v32,k32,EX,HN⟩:=aP HR;refine Fx.call [14,14] 53 [] [(11,#[O Zy,O t23])] (fun W M=>U8 EX _) ?_;refine Fx.dB jr [] 56 [] [] (fun W M=>A8 (v:=v32) _) HN fun _ HR=>?_;refine Fx.part 1 [] [(57,ak (decide (v32<0)))] [] ?_;refine Fx.splitB (fun hf2=>?_) (fun hf2=>?_)
  ·skip
   replace HR:=gB.pos HR (of_decide_eq_true hf2);refine Fx.panics (v:=.iface 43 (Z I 9)) 5 [1] [] (fun W M=>?_);have HB:=M.below;obtain ⟨hk, -⟩:=HR;cases hk;exact ⟨HB,.inr ⟨by decide,rfl⟩⟩
  ·skip
   replace HR:=gB.neg HR (of_decide_eq_false hf2);refine Fx.aY [2,1] 10 32 [(49,Z I 2),(51,au #[O s27,O t27])] [] fun aR8=>?_;obtain ⟨v35,k35,EX,HN⟩:=aP HR;refine Fx.call [15,15] 53 [] [(12,#[O s27,O t27])] (fun W M=>U8 EX _) ?_;refine Fx.dB jr [] 56 [] [] (fun W M=>A8 (v:=v35) _) HN fun _ HR=>?_;refine Fx.part 1 [] [(57,ak (decide (v35<0)))] [] ?_;refine Fx.splitB (fun hf3=>?_) (fun hf3=>?_)
   ·skip
    replace HR:=gB.pos HR (of_decide_eq_true hf3);refine Fx.panics (v:=.iface 43 (Z I 9)) 5 [1] [] (fun W M=>?_);have HB:=M.below;obtain ⟨hk, -⟩:=HR;cases hk;exact ⟨HB,.inr ⟨by decide,rfl⟩⟩
   ·skip
    replace HR:=gB.neg HR (of_decide_eq_false hf3);obtain ⟨hk,hv⟩:=HR;cases hk
    exact Fx.iC (cs:=#[O YG,O YF,O Zy,O t23,O s27,O t27]) 2 gM [2,2,9,5] [(2,#[O YG,O YF,O Zy,O t23,O s27,O t27])] (fun W M=>⟨M.below,.inl ⟨rfl,by cases hv rfl;rfl⟩⟩)
def vJ (b c:Int × Int):(Int × Int) × Int:=cK (0,0) (dH.yA b c) fun q=>cK (0,0) (dH.AJ q (-1000000000000) 1000000000000) nZ
theorem Gy {u v c d x y k:Int} {p:Nat} (hx:gB (vJ (u,v) (c,d)) (x,y) k) (w:World) (hp:aA w p #[Z I c,Z I d] 40) :
  Calls Tryz.prog 72 #[au #[Z I u,Z I v],aB (some ⟨p,0,none⟩)] w (Try w (au #[Z I x,Z I y]) k):=by
 unfold vJ at hx;refine Fx.door Tryz.func72 rfl (.ro hp (.nil w [])) ?_;have HR:=hx;refine Fx.new [] 2 #[Z I u,Z I v] 40 [] [] fun gM=>?_;refine Fx.aY [] 3 40 [] [] fun gI=>?_;obtain ⟨⟨x3,y3⟩,k3,EX,HN⟩:=aP HR;refine Fx.call [4,3] 6 [] [] (fun W M=>ar4 EX _) ?_;refine Fx.dB jr [] 9 [] [] (fun W M=>mR (x:=x3) (y:=y3) _) HN fun _ HR=>?_;obtain ⟨⟨x5,y5⟩,k5,EX,HN⟩:=aP HR;refine Fx.call [] 10 [] [] (fun W M=>XU EX _) ?_;refine Fx.dB jr [] 13 [] [] (fun W M=>mR (x:=x5) (y:=y5) _) HN fun _ HR=>?_;obtain ⟨hk,hv⟩:=HR;cases hk
 exact Fx.iC (cs:=#[Z I x5,Z I y5]) 2 gI [5] [(2,#[Z I x5,Z I y5])] (fun W M=>⟨M.below,.inl ⟨rfl,by cases hv rfl;rfl⟩⟩)
end Go.Proofs.lab
namespace Go.Proofs.lab
open Go Go.RowKit Go.SW Go.Num Go.Mem Go.Proofs Go.Dec Go.gD
theorem zB (er:Int) (w:World):(Instr.typeAssert (.iface 43 (Z I er)) 20 43 true).run Tryz.prog w= .ok (aG #[Z I er,ak true]) w:=by kernel_rfl
theorem jR {w:World} {b:Nat} {cs cs':Array Value} {T:TypeId} (h:aA w b cs T) (e:cs=cs'):aA w b cs' T:=e ▸ h
def caught (er:Int) (rec:Bool):FrameMode:=.panicking [{ v:=.iface 43 (Z I er),recovered:=rec }]
theorem J7 (p q:Addr) (w:World) :
  CallsD Tryz.prog 121 #[aB (some p),aB (some q)] .returning w fun e u' w'=>e= aj (aG #[])∧u'= .returning∧w'=w:=by
 refine callsD_of_wpS Tryz.func121 rfl fun c₀ cs hu=>?_;simp only [Tryz.ntmps121,List.size_toArray,bg,List.length_nil,Nat.reduceAdd,Nat.reduceSub,Array.replicate_succ,Array.replicate_zero,List.push_toArray,List.append_toArray,List.nil_append,dh];refine wpS_seq (wpS_region ?_);generalize hQ:Exit.thenS _ _=Q;simp [wpOpsS,go_sem,recoverD,hu]
 rw [← hQ];clear hQ;refine wpS_of_wp ?_;go_wp2_with fail
 cases c₀
 simp_all [bodyPostS,results,Tryz.results121]
theorem ae0 (b c:Nat) (s1 s2 s3 s4 s5 s6:Int) (z er:Int) (w:World) (hb:aA w b #[Z I s1,Z I s2,Z I s3,Z I s4,Z I s5,Z I s6] 42) (hc:aA w c #[Z I z] 43) :
  CallsD Tryz.prog 121 #[aB (some ⟨b,0,none⟩),aB (some ⟨c,0,none⟩)] (caught er false) w fun e u' w' =>
   e= aj (aG #[])∧u'=caught er true∧aA w' b #[Z I 0,Z I 0,Z I 0,Z I 0,Z I 0,Z I 0] 42∧aA w' c #[Z I er] 43∧∀ w0:World,w0.heap.size≤b→w0.heap.size≤c→Below w0.heap.size w0 w→Below w0.heap.size w0 w':=by
 unfold caught;refine callsD_of_wpS Tryz.func121 rfl fun c₀ cs hu=>?_;simp only [Tryz.ntmps121,List.size_toArray,bg,List.length_nil,Nat.reduceAdd,Nat.reduceSub,Array.replicate_succ,Array.replicate_zero,List.push_toArray,List.append_toArray,List.nil_append,dh];refine wpS_seq (wpS_region ?_);generalize hQ:Exit.thenS _ _=Q;simp [wpOpsS,go_sem,recoverD,hu]
 rw [← hQ];clear hQ;refine wpS_of_wp ?_;have cb:=hb.cell;have fb:=hb.free;have cc:=hc.cell;have fc:=hc.free;have lb:=hb.lt;have lc:=hc.lt;have hne:b≠c:=hb.ne hc zd;have hne2:c≠b:=fun e=>hne e.symm;have hta:=zB er;obtain ⟨R,HR⟩:∃ R:Ending→FrameMode→World→Prop,Hid (R=fun e u' w'=>e= aj (aG #[])∧u'= .panicking [{ v:=.iface 43 (Z I er),recovered:=true }]∧aA w' b #[Z I 0,Z I 0,Z I 0,Z I 0,Z I 0,Z I 0] 42∧aA w' c #[Z I er] 43∧∀ w0:World,w0.heap.size≤b→w0.heap.size≤c→Below w0.heap.size w0 w→Below w0.heap.size w0 w'):=⟨_,zh rfl⟩
 rw [← HR.out];go_wp2_with fail
 simp only [bodyPostS];refine ⟨trivial,_,rfl,_,results_none rfl _ _ _,?_⟩;rw [HR.out];refine ⟨rfl,rfl,?_,?_,fun w0 h1 h2 h3=>?_⟩
 ·apply jR
  ·exact bf
  ·simp only [List.setIfInBounds_toArray,aM,aN]
 ·apply jR
  ·exact bf
  ·simp only [List.setIfInBounds_toArray,aM,aN]
 ·exact aF
theorem J6 (p q:Addr) (w:World) :
  CallsD Tryz.prog 167 #[aB (some p),aB (some q)] .returning w fun e u' w'=>e= aj (aG #[])∧u'= .returning∧w'=w:=by
 refine callsD_of_wpS Tryz.func167 rfl fun c₀ cs hu=>?_;simp only [Tryz.ntmps167,List.size_toArray,bg,List.length_nil,Nat.reduceAdd,Nat.reduceSub,Array.replicate_succ,Array.replicate_zero,List.push_toArray,List.append_toArray,List.nil_append,dh];refine wpS_seq (wpS_region ?_);generalize hQ:Exit.thenS _ _=Q;simp [wpOpsS,go_sem,recoverD,hu]
 rw [← hQ];clear hQ;refine wpS_of_wp ?_;go_wp2_with fail
 cases c₀
 simp_all [bodyPostS,results,Tryz.results167]
theorem ad9 (b c:Nat) (s1 s2 s3 s4 s5 s6:ByteArray) (z er:Int) (w:World) (hb:aA w b #[O s1,O s2,O s3,O s4,O s5,O s6] 34) (hc:aA w c #[Z I z] 43) :
  CallsD Tryz.prog 167 #[aB (some ⟨b,0,none⟩),aB (some ⟨c,0,none⟩)] (caught er false) w fun e u' w' =>
   e= aj (aG #[])∧u'=caught er true∧aA w' b #[O ⟨#[]⟩,O ⟨#[]⟩,O ⟨#[]⟩,O ⟨#[]⟩,O ⟨#[]⟩,O ⟨#[]⟩] 34∧aA w' c #[Z I er] 43∧∀ w0:World,w0.heap.size≤b→w0.heap.size≤c→Below w0.heap.size w0 w→Below w0.heap.size w0 w':=by
 unfold caught;refine callsD_of_wpS Tryz.func167 rfl fun c₀ cs hu=>?_;simp only [Tryz.ntmps167,List.size_toArray,bg,List.length_nil,Nat.reduceAdd,Nat.reduceSub,Array.replicate_succ,Array.replicate_zero,List.push_toArray,List.append_toArray,List.nil_append,dh];refine wpS_seq (wpS_region ?_);generalize hQ:Exit.thenS _ _=Q;simp [wpOpsS,go_sem,recoverD,hu]
 rw [← hQ];clear hQ;refine wpS_of_wp ?_;have cb:=hb.cell;have fb:=hb.free;have cc:=hc.cell;have fc:=hc.free;have lb:=hb.lt;have lc:=hc.lt;have hne:b≠c:=hb.ne hc zd;have hne2:c≠b:=fun e=>hne e.symm;have hta:=zB er;obtain ⟨R,HR⟩:∃ R:Ending→FrameMode→World→Prop,Hid (R=fun e u' w'=>e= aj (aG #[])∧u'= .panicking [{ v:=.iface 43 (Z I er),recovered:=true }]∧aA w' b #[O ⟨#[]⟩,O ⟨#[]⟩,O ⟨#[]⟩,O ⟨#[]⟩,O ⟨#[]⟩,O ⟨#[]⟩] 34∧aA w' c #[Z I er] 43∧∀ w0:World,w0.heap.size≤b→w0.heap.size≤c→Below w0.heap.size w0 w→Below w0.heap.size w0 w'):=⟨_,zh rfl⟩
 rw [← HR.out];go_wp2_with fail
 simp only [bodyPostS];refine ⟨trivial,_,rfl,_,results_none rfl _ _ _,?_⟩;rw [HR.out];refine ⟨rfl,rfl,?_,?_,fun w0 h1 h2 h3=>?_⟩
 ·apply jR
  ·exact bf
  ·simp only [List.setIfInBounds_toArray,aM,aN]
 ·apply jR
  ·exact bf
  ·simp only [List.setIfInBounds_toArray,aM,aN]
 ·exact aF
theorem J8 (p q:Addr) (w:World) :
  CallsD Tryz.prog 152 #[aB (some p),aB (some q)] .returning w fun e u' w'=>e= aj (aG #[])∧u'= .returning∧w'=w:=by
 refine callsD_of_wpS Tryz.func152 rfl fun c₀ cs hu=>?_;simp only [Tryz.ntmps152,List.size_toArray,bg,List.length_nil,Nat.reduceAdd,Nat.reduceSub,Array.replicate_succ,Array.replicate_zero,List.push_toArray,List.append_toArray,List.nil_append,dh];refine wpS_seq (wpS_region ?_);generalize hQ:Exit.thenS _ _=Q;simp [wpOpsS,go_sem,recoverD,hu]
 rw [← hQ];clear hQ;refine wpS_of_wp ?_;go_wp2_with fail
 cases c₀
 simp_all [bodyPostS,results,Tryz.results152]
theorem ae1 (b c:Nat) (s1 s2 s3 s4 s5 s6:Int) (z er:Int) (w:World) (hb:aA w b #[Z I s1,Z I s2,Z I s3,Z I s4,Z I s5,Z I s6] 118) (hc:aA w c #[Z I z] 43) :
  CallsD Tryz.prog 152 #[aB (some ⟨b,0,none⟩),aB (some ⟨c,0,none⟩)] (caught er false) w fun e u' w' =>
   e= aj (aG #[])∧u'=caught er true∧aA w' b #[Z I 0,Z I 0,Z I 0,Z I 0,Z I 0,Z I 0] 118∧aA w' c #[Z I er] 43∧∀ w0:World,w0.heap.size≤b→w0.heap.size≤c→Below w0.heap.size w0 w→Below w0.heap.size w0 w':=by
 unfold caught;refine callsD_of_wpS Tryz.func152 rfl fun c₀ cs hu=>?_;simp only [Tryz.ntmps152,List.size_toArray,bg,List.length_nil,Nat.reduceAdd,Nat.reduceSub,Array.replicate_succ,Array.replicate_zero,List.push_toArray,List.append_toArray,List.nil_append,dh];refine wpS_seq (wpS_region ?_);generalize hQ:Exit.thenS _ _=Q;simp [wpOpsS,go_sem,recoverD,hu]
 rw [← hQ];clear hQ;refine wpS_of_wp ?_;have cb:=hb.cell;have fb:=hb.free;have cc:=hc.cell;have fc:=hc.free;have lb:=hb.lt;have lc:=hc.lt;have hne:b≠c:=hb.ne hc zd;have hne2:c≠b:=fun e=>hne e.symm;have hta:=zB er;obtain ⟨R,HR⟩:∃ R:Ending→FrameMode→World→Prop,Hid (R=fun e u' w'=>e= aj (aG #[])∧u'= .panicking [{ v:=.iface 43 (Z I er),recovered:=true }]∧aA w' b #[Z I 0,Z I 0,Z I 0,Z I 0,Z I 0,Z I 0] 118∧aA w' c #[Z I er] 43∧∀ w0:World,w0.heap.size≤b→w0.heap.size≤c→Below w0.heap.size w0 w→Below w0.heap.size w0 w'):=⟨_,zh rfl⟩
 rw [← HR.out];go_wp2_with fail
 simp only [bodyPostS];refine ⟨trivial,_,rfl,_,results_none rfl _ _ _,?_⟩;rw [HR.out];refine ⟨rfl,rfl,?_,?_,fun w0 h1 h2 h3=>?_⟩
 ·apply jR
  ·exact bf
  ·simp only [List.setIfInBounds_toArray,aM,aN]
 ·apply jR
  ·exact bf
  ·simp only [List.setIfInBounds_toArray,aM,aN]
 ·exact aF
theorem iL {P:Program} {fn:Func} {w:World} {tmps:Array Value} {p q:Tmp} {ty Aq:TypeId} {g g2:Nat} {x y:Value} (h:fn.results=#[.cell p ty,.cell q Aq])
  (hp:tmps.getD p undef= aB (some ⟨g,0,none⟩)) (hq:tmps.getD q undef= aB (some ⟨g2,0,none⟩)) (h1:(loadVar ty ⟨g,0,none⟩).run P w= .ok x w) (h2:(loadVar Aq ⟨g2,0,none⟩).run P w= .ok y w) :
  (results fn tmps).run P w= .ok (aG #[x,y]) w:=by
 have hp':tmps[p]?.getD undef= aB (some ⟨g,0,none⟩):=by simpa using hp
 have hq':tmps[q]?.getD undef= aB (some ⟨g2,0,none⟩):=by simpa using hq
 simp [results,h,hp',hq',asAddr,h1,h2]
theorem nI {w:World} {c:Nat} {z:Int} (h:aA w c #[Z I z] 43):(loadVar 43 ⟨c,0,none⟩).run Tryz.prog w= .ok (Z I z) w:=by
 have hc:=h.cell 0;simp [go_sem,hc]
theorem TY {w:World} {b:Nat} {s1 s2 s3 s4 s5 s6:Int} (h:aA w b #[Z I s1,Z I s2,Z I s3,Z I s4,Z I s5,Z I s6] 42):(loadVar 42 ⟨b,0,none⟩).run Tryz.prog w= .ok (au #[Z I s1,Z I s2,Z I s3,Z I s4,Z I s5,Z I s6]) w :=
 run_loadVar_row w b 42 42 _ (0,0) _ h Tryz.underlying42 rfl zk
theorem MJ {f:FuncId} {caps:Array Value} {k:Int} {s1 s2 s3 s4 s5 s6:Int} (w:World) (HC:∀ W,Below w.heap.size w W→Calls Tryz.prog f caps W (Try W (au #[Z I s1,Z I s2,Z I s3,Z I s4,Z I s5,Z I s6]) k))
  (hf:∀ args W,(callFunc f args).run Tryz.prog W= .ok (.enter f args) W) :
  Calls Tryz.prog 44 #[.func (.func f) #[] caps] w (Du w (au #[Z I s1,Z I s2,Z I s3,Z I s4,Z I s5,Z I s6]) (au #[Z I 0,Z I 0,Z I 0,Z I 0,Z I 0,Z I 0]) k):=by
 have hmf:∀ (fn:Fn) (first cap:Array Value) (w:World),(Instr.makeFunc fn first cap).run Tryz.prog w= .ok (.func fn first cap) w:=fun _ _ _ _=>rfl;have HCH:=zh HC;clear HC;have hb0:Below w.heap.size w ((w.alloc (.cells #[Z I 0,Z I 0,Z I 0,Z I 0,Z I 0,Z I 0] 42)).alloc (.cells #[Z I 0] 43)):=aF;obtain ⟨w0,PD⟩:∃ y,(w.alloc (.cells #[Z I 0,Z I 0,Z I 0,Z I 0,Z I 0,Z I 0] 42)).alloc (.cells #[Z I 0] 43)=y:=⟨_,rfl⟩;have hx1:aA w0 w.heap.size #[Z I 0,Z I 0,Z I 0,Z I 0,Z I 0,Z I 0] 42:=by rw [← PD];exact bf
 have hx2:aA w0 (w.heap.size+1) #[Z I 0] 43:=by rw [← PD];exact bf
 rw [PD] at hb0
 go_enter_defers Tryz.func44,Tryz.ntmps44
 go_wp2_with fail
 refine (HCH.out _ hb0).mono ?_;rintro e w1 ⟨hb1,⟨rfl,rfl⟩|⟨h,rfl⟩⟩
 ·replace hx1:=hx1.later hb1;replace hx2:=hx2.later hb1;have c1:=hx1.cell;have f1:=hx1.free;have c2:=hx2.cell;have f2:=hx2.free;have hne:w.heap.size≠w.heap.size+1:=by omega
  have hx3:aA (((((((w1.setCell ⟨w.heap.size,0,none⟩ (Z I s1)).setCell ⟨w.heap.size,1,none⟩ (Z I s2)).setCell ⟨w.heap.size,2,none⟩ (Z I s3)).setCell ⟨w.heap.size,3,none⟩ (Z I s4)).setCell ⟨w.heap.size,4,none⟩ (Z I s5)).setCell ⟨w.heap.size,5,none⟩ (Z I s6)).setCell ⟨w.heap.size+1,0,none⟩ (Z I 0)) w.heap.size #[Z I s1,Z I s2,Z I s3,Z I s4,Z I s5,Z I s6] 42:=by
   apply jR
   ·exact bf
   ·simp only [List.setIfInBounds_toArray,aM,aN]
  have hx4:aA (((((((w1.setCell ⟨w.heap.size,0,none⟩ (Z I s1)).setCell ⟨w.heap.size,1,none⟩ (Z I s2)).setCell ⟨w.heap.size,2,none⟩ (Z I s3)).setCell ⟨w.heap.size,3,none⟩ (Z I s4)).setCell ⟨w.heap.size,4,none⟩ (Z I s5)).setCell ⟨w.heap.size,5,none⟩ (Z I s6)).setCell ⟨w.heap.size+1,0,none⟩ (Z I 0)) (w.heap.size+1) #[Z I 0] 43:=by
   apply jR
   ·exact bf
   ·simp only [List.setIfInBounds_toArray,aM,aN]
  have hbw:Below w.heap.size w (((((((w1.setCell ⟨w.heap.size,0,none⟩ (Z I s1)).setCell ⟨w.heap.size,1,none⟩ (Z I s2)).setCell ⟨w.heap.size,2,none⟩ (Z I s3)).setCell ⟨w.heap.size,3,none⟩ (Z I s4)).setCell ⟨w.heap.size,4,none⟩ (Z I s5)).setCell ⟨w.heap.size,5,none⟩ (Z I s6)).setCell ⟨w.heap.size+1,0,none⟩ (Z I 0)):=by
   have:=Bt hb0 hb1;exact aF
  have VW:=zh hx3;have HX4:=zh hx4;have HBW:=zh hbw;clear hx3 hx4 hbw PD hx1 hx2 hb0 hb1;go_wp2_with fail
  refine leaves_cons (f:=121) (args:=#[aB (some ⟨w.heap.size,0,none⟩),aB (some ⟨w.heap.size+1,0,none⟩)]) zi (by simp [go_sem]) ?_;refine (J7 _ _ _).mono ?_;rintro e u' w'' ⟨rfl,rfl,rfl⟩;exact ⟨_,iL rfl rfl rfl (TY VW.out) (nI HX4.out),HBW.out,.inl ⟨rfl,rfl⟩⟩
 ·replace hx1:=hx1.later hb1;replace hx2:=hx2.later hb1
  change bodyPostD _ _ _ (Exit.panic [{ v:=.iface 43 (Z I k),recovered:=false }]) _ _
  refine leaves_cons (f:=121) (args:=#[aB (some ⟨w.heap.size,0,none⟩),aB (some ⟨w.heap.size+1,0,none⟩)]) zi (by simp [go_sem]) ?_;refine (ae0 w.heap.size (w.heap.size+1) _ _ _ _ _ _ _ k _ hx1 hx2).mono ?_;rintro e u' w'' ⟨rfl,rfl,hy1,hy2,hbb⟩;exact ⟨_,iL rfl rfl rfl (TY hy1) (nI hy2),hbb w (aD _) zo (Bt hb0 hb1),.inr ⟨h,rfl⟩⟩
theorem TW {w:World} {b:Nat} {s1 s2 s3 s4 s5 s6:ByteArray} (h:aA w b #[O s1,O s2,O s3,O s4,O s5,O s6] 34):(loadVar 34 ⟨b,0,none⟩).run Tryz.prog w= .ok (au #[O s1,O s2,O s3,O s4,O s5,O s6]) w :=
 run_loadVar_row w b 34 34 _ (0,0) _ h Tryz.underlying34 rfl zk
theorem wI {f:FuncId} {caps:Array Value} {k:Int} {s1 s2 s3 s4 s5 s6:ByteArray} (w:World) (HC:∀ W,Below w.heap.size w W→Calls Tryz.prog f caps W (Try W (au #[O s1,O s2,O s3,O s4,O s5,O s6]) k))
  (hf:∀ args W,(callFunc f args).run Tryz.prog W= .ok (.enter f args) W) :
  Calls Tryz.prog 80 #[.func (.func f) #[] caps] w (Du w (au #[O s1,O s2,O s3,O s4,O s5,O s6]) (au #[O ⟨#[]⟩,O ⟨#[]⟩,O ⟨#[]⟩,O ⟨#[]⟩,O ⟨#[]⟩,O ⟨#[]⟩]) k):=by
 have hmf:∀ (fn:Fn) (first cap:Array Value) (w:World),(Instr.makeFunc fn first cap).run Tryz.prog w= .ok (.func fn first cap) w:=fun _ _ _ _=>rfl;have HCH:=zh HC;clear HC;have hb0:Below w.heap.size w ((w.alloc (.cells #[O ⟨#[]⟩,O ⟨#[]⟩,O ⟨#[]⟩,O ⟨#[]⟩,O ⟨#[]⟩,O ⟨#[]⟩] 34)).alloc (.cells #[Z I 0] 43)):=aF;obtain ⟨w0,PD⟩:∃ y,(w.alloc (.cells #[O ⟨#[]⟩,O ⟨#[]⟩,O ⟨#[]⟩,O ⟨#[]⟩,O ⟨#[]⟩,O ⟨#[]⟩] 34)).alloc (.cells #[Z I 0] 43)=y:=⟨_,rfl⟩;have hx1:aA w0 w.heap.size #[O ⟨#[]⟩,O ⟨#[]⟩,O ⟨#[]⟩,O ⟨#[]⟩,O ⟨#[]⟩,O ⟨#[]⟩] 34:=by rw [← PD];exact bf
 have hx2:aA w0 (w.heap.size+1) #[Z I 0] 43:=by rw [← PD];exact bf
 rw [PD] at hb0
 go_enter_defers Tryz.func80,Tryz.ntmps80
 go_wp2_with fail
 refine (HCH.out _ hb0).mono ?_;rintro e w1 ⟨hb1,⟨rfl,rfl⟩|⟨h,rfl⟩⟩
 ·replace hx1:=hx1.later hb1;replace hx2:=hx2.later hb1;have c1:=hx1.cell;have f1:=hx1.free;have c2:=hx2.cell;have f2:=hx2.free;have hne:w.heap.size≠w.heap.size+1:=by omega
  have hx3:aA (((((((w1.setCell ⟨w.heap.size,0,none⟩ (O s1)).setCell ⟨w.heap.size,1,none⟩ (O s2)).setCell ⟨w.heap.size,2,none⟩ (O s3)).setCell ⟨w.heap.size,3,none⟩ (O s4)).setCell ⟨w.heap.size,4,none⟩ (O s5)).setCell ⟨w.heap.size,5,none⟩ (O s6)).setCell ⟨w.heap.size+1,0,none⟩ (Z I 0)) w.heap.size #[O s1,O s2,O s3,O s4,O s5,O s6] 34:=by
   apply jR
   ·exact bf
   ·simp only [List.setIfInBounds_toArray,aM,aN]
  have hx4:aA (((((((w1.setCell ⟨w.heap.size,0,none⟩ (O s1)).setCell ⟨w.heap.size,1,none⟩ (O s2)).setCell ⟨w.heap.size,2,none⟩ (O s3)).setCell ⟨w.heap.size,3,none⟩ (O s4)).setCell ⟨w.heap.size,4,none⟩ (O s5)).setCell ⟨w.heap.size,5,none⟩ (O s6)).setCell ⟨w.heap.size+1,0,none⟩ (Z I 0)) (w.heap.size+1) #[Z I 0] 43:=by
   apply jR
   ·exact bf
   ·simp only [List.setIfInBounds_toArray,aM,aN]
  have hbw:Below w.heap.size w (((((((w1.setCell ⟨w.heap.size,0,none⟩ (O s1)).setCell ⟨w.heap.size,1,none⟩ (O s2)).setCell ⟨w.heap.size,2,none⟩ (O s3)).setCell ⟨w.heap.size,3,none⟩ (O s4)).setCell ⟨w.heap.size,4,none⟩ (O s5)).setCell ⟨w.heap.size,5,none⟩ (O s6)).setCell ⟨w.heap.size+1,0,none⟩ (Z I 0)):=by
   have:=Bt hb0 hb1;exact aF
  have VW:=zh hx3;have HX4:=zh hx4;have HBW:=zh hbw;clear hx3 hx4 hbw PD hx1 hx2 hb0 hb1;go_wp2_with fail
  refine leaves_cons (f:=167) (args:=#[aB (some ⟨w.heap.size,0,none⟩),aB (some ⟨w.heap.size+1,0,none⟩)]) zi (by simp [go_sem]) ?_;refine (J6 _ _ _).mono ?_;rintro e u' w'' ⟨rfl,rfl,rfl⟩;exact ⟨_,iL rfl rfl rfl (TW VW.out) (nI HX4.out),HBW.out,.inl ⟨rfl,rfl⟩⟩
 ·replace hx1:=hx1.later hb1;replace hx2:=hx2.later hb1
  change bodyPostD _ _ _ (Exit.panic [{ v:=.iface 43 (Z I k),recovered:=false }]) _ _
  refine leaves_cons (f:=167) (args:=#[aB (some ⟨w.heap.size,0,none⟩),aB (some ⟨w.heap.size+1,0,none⟩)]) zi (by simp [go_sem]) ?_;refine (ad9 w.heap.size (w.heap.size+1) _ _ _ _ _ _ _ k _ hx1 hx2).mono ?_;rintro e u' w'' ⟨rfl,rfl,hy1,hy2,hbb⟩;exact ⟨_,iL rfl rfl rfl (TW hy1) (nI hy2),hbb w (aD _) zo (Bt hb0 hb1),.inr ⟨h,rfl⟩⟩
theorem T9 {w:World} {b:Nat} {s1 s2 s3 s4 s5 s6:Int} (h:aA w b #[Z I s1,Z I s2,Z I s3,Z I s4,Z I s5,Z I s6] 118):(loadVar 118 ⟨b,0,none⟩).run Tryz.prog w= .ok (au #[Z I s1,Z I s2,Z I s3,Z I s4,Z I s5,Z I s6]) w :=
 run_loadVar_row w b 118 118 _ (0,0) _ h Tryz.underlying118 rfl zk
theorem CO {f:FuncId} {caps:Array Value} {k:Int} {s1 s2 s3 s4 s5 s6:Int} (w:World) (HC:∀ W,Below w.heap.size w W→Calls Tryz.prog f caps W (Try W (au #[Z I s1,Z I s2,Z I s3,Z I s4,Z I s5,Z I s6]) k))
  (hf:∀ args W,(callFunc f args).run Tryz.prog W= .ok (.enter f args) W) :
  Calls Tryz.prog 69 #[.func (.func f) #[] caps] w (Du w (au #[Z I s1,Z I s2,Z I s3,Z I s4,Z I s5,Z I s6]) (au #[Z I 0,Z I 0,Z I 0,Z I 0,Z I 0,Z I 0]) k):=by
 have hmf:∀ (fn:Fn) (first cap:Array Value) (w:World),(Instr.makeFunc fn first cap).run Tryz.prog w= .ok (.func fn first cap) w:=fun _ _ _ _=>rfl;have HCH:=zh HC;clear HC;have hb0:Below w.heap.size w ((w.alloc (.cells #[Z I 0,Z I 0,Z I 0,Z I 0,Z I 0,Z I 0] 118)).alloc (.cells #[Z I 0] 43)):=aF;obtain ⟨w0,PD⟩:∃ y,(w.alloc (.cells #[Z I 0,Z I 0,Z I 0,Z I 0,Z I 0,Z I 0] 118)).alloc (.cells #[Z I 0] 43)=y:=⟨_,rfl⟩;have hx1:aA w0 w.heap.size #[Z I 0,Z I 0,Z I 0,Z I 0,Z I 0,Z I 0] 118:=by rw [← PD];exact bf
 have hx2:aA w0 (w.heap.size+1) #[Z I 0] 43:=by rw [← PD];exact bf
 rw [PD] at hb0
 go_enter_defers Tryz.func69,Tryz.ntmps69
 go_wp2_with fail
 refine (HCH.out _ hb0).mono ?_;rintro e w1 ⟨hb1,⟨rfl,rfl⟩|⟨h,rfl⟩⟩
 ·replace hx1:=hx1.later hb1;replace hx2:=hx2.later hb1;have c1:=hx1.cell;have f1:=hx1.free;have c2:=hx2.cell;have f2:=hx2.free;have hne:w.heap.size≠w.heap.size+1:=by omega
  have hx3:aA (((((((w1.setCell ⟨w.heap.size,0,none⟩ (Z I s1)).setCell ⟨w.heap.size,1,none⟩ (Z I s2)).setCell ⟨w.heap.size,2,none⟩ (Z I s3)).setCell ⟨w.heap.size,3,none⟩ (Z I s4)).setCell ⟨w.heap.size,4,none⟩ (Z I s5)).setCell ⟨w.heap.size,5,none⟩ (Z I s6)).setCell ⟨w.heap.size+1,0,none⟩ (Z I 0)) w.heap.size #[Z I s1,Z I s2,Z I s3,Z I s4,Z I s5,Z I s6] 118:=by
   apply jR
   ·exact bf
   ·simp only [List.setIfInBounds_toArray,aM,aN]
  have hx4:aA (((((((w1.setCell ⟨w.heap.size,0,none⟩ (Z I s1)).setCell ⟨w.heap.size,1,none⟩ (Z I s2)).setCell ⟨w.heap.size,2,none⟩ (Z I s3)).setCell ⟨w.heap.size,3,none⟩ (Z I s4)).setCell ⟨w.heap.size,4,none⟩ (Z I s5)).setCell ⟨w.heap.size,5,none⟩ (Z I s6)).setCell ⟨w.heap.size+1,0,none⟩ (Z I 0)) (w.heap.size+1) #[Z I 0] 43:=by
   apply jR
   ·exact bf
   ·simp only [List.setIfInBounds_toArray,aM,aN]
  have hbw:Below w.heap.size w (((((((w1.setCell ⟨w.heap.size,0,none⟩ (Z I s1)).setCell ⟨w.heap.size,1,none⟩ (Z I s2)).setCell ⟨w.heap.size,2,none⟩ (Z I s3)).setCell ⟨w.heap.size,3,none⟩ (Z I s4)).setCell ⟨w.heap.size,4,none⟩ (Z I s5)).setCell ⟨w.heap.size,5,none⟩ (Z I s6)).setCell ⟨w.heap.size+1,0,none⟩ (Z I 0)):=by
   have:=Bt hb0 hb1;exact aF
  have VW:=zh hx3;have HX4:=zh hx4;have HBW:=zh hbw;clear hx3 hx4 hbw PD hx1 hx2 hb0 hb1;go_wp2_with fail
  refine leaves_cons (f:=152) (args:=#[aB (some ⟨w.heap.size,0,none⟩),aB (some ⟨w.heap.size+1,0,none⟩)]) zi (by simp [go_sem]) ?_;refine (J8 _ _ _).mono ?_;rintro e u' w'' ⟨rfl,rfl,rfl⟩;exact ⟨_,iL rfl rfl rfl (T9 VW.out) (nI HX4.out),HBW.out,.inl ⟨rfl,rfl⟩⟩
 ·replace hx1:=hx1.later hb1;replace hx2:=hx2.later hb1
  change bodyPostD _ _ _ (Exit.panic [{ v:=.iface 43 (Z I k),recovered:=false }]) _ _
  refine leaves_cons (f:=152) (args:=#[aB (some ⟨w.heap.size,0,none⟩),aB (some ⟨w.heap.size+1,0,none⟩)]) zi (by simp [go_sem]) ?_;refine (ae1 w.heap.size (w.heap.size+1) _ _ _ _ _ _ _ k _ hx1 hx2).mono ?_;rintro e u' w'' ⟨rfl,rfl,hy1,hy2,hbb⟩;exact ⟨_,iL rfl rfl rfl (T9 hy1) (nI hy2),hbb w (aD _) zo (Bt hb0 hb1),.inr ⟨h,rfl⟩⟩
end Go.Proofs.lab
