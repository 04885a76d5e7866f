/- Lemmas for the proof. No condition. -/
import Derived.Test.YtneajphgfdlmhaaGreatDoorUB28
import Derived.Test.YtneajphgfdlmhaaGreatDoorUB29
import Derived.Test.YtneajphgfdlmhaaGreatDoorUB40
set_option linter.unusedVariables false
set_option linter.unusedSimpArgs false
set_option maxRecDepth 100000
set_option maxHeartbeats 16000000
open Go.Ending renaming returned → ah
open Go.IntKind renaming i64 → I
open Go.Value renaming agg → au, bool → ak, int → Z, pointer → aA, slice → aj, string → O, tuple → aD
open List renaming range → dF
namespace Go.Proofs.lab
open Go Go.RowKit Go.SW Go.Num Go.Mem Go.Proofs Go.gB Go.Fx
def thrown (er:Int):Ending:=.panicked [{ v:=.iface 43 (Z I er),recovered:=false }]
abbrev Try:=Xt thrown
theorem jc (k:Int):∃ c,thrown k= .panicked c:=⟨_,rfl⟩
theorem qR {s t:ByteArray} {k:Int} (w:World):Calls Tryz.prog 126 #[au #[O s,O t],Z I k] w (Try w (au #[O s,O t]) k):=by
 by_cases h:k=0
 ·subst h;go_enter Tryz.func126,Tryz.ntmps126
  go_wp2_with fail
  refine ig rfl rfl bI Tryz.underlying32 rfl zk ?_;exact ⟨aJ,.inl ⟨rfl,rfl⟩⟩
 ·have b1:(k != 0)=true:=by simp [h]
  have H:=zh h;clear h;go_enter Tryz.func126,Tryz.ntmps126
  go_wp2_with fail
  exact ⟨rfl,aJ,.inr ⟨H.out,rfl⟩⟩
theorem jA {x y:Int} {k:Int} (w:World):Calls Tryz.prog 49 #[au #[Z I x,Z I y],Z I k] w (Try w (au #[Z I x,Z I y]) k):=by
 by_cases h:k=0
 ·subst h;go_enter Tryz.func49,Tryz.ntmps49
  go_wp2_with fail
  refine ig rfl rfl bI Tryz.underlying40 rfl zk ?_;exact ⟨aJ,.inl ⟨rfl,rfl⟩⟩
 ·have b1:(k != 0)=true:=by simp [h]
  have H:=zh h;clear h;go_enter Tryz.func49,Tryz.ntmps49
  go_wp2_with fail
  exact ⟨rfl,aJ,.inr ⟨H.out,rfl⟩⟩
theorem BG {v k:Int} (w:World):Calls Tryz.prog 103 #[Z I v,Z I k] w (Try w (Z I v) k):=by
 by_cases h:k=0
 ·subst h;go_enter Tryz.func103,Tryz.ntmps103
  go_wp2_with fail
  go_ret
  exact ⟨Below.refl _ _,.inl ⟨rfl,rfl⟩⟩
 ·have b1:(k != 0)=true:=by simp [h]
  have H:=zh h;clear h;go_enter Tryz.func103,Tryz.ntmps103
  go_wp2_with fail
  exact ⟨rfl,Below.refl _ _,.inr ⟨H.out,rfl⟩⟩
theorem Qb {s t s' t' y y':ByteArray} {k:Int} (hx:gq (tY ⟨s,t⟩ ⟨s',t'⟩) ⟨y,y'⟩ k) (w:World) (ht:jN.Pow w) :
  Calls Tryz.prog 83 #[au #[O s,O t],au #[O s',O t']] w (Try w (au #[O y,O y']) k):=by
 refine Fx.door Tryz.func83 rfl (.nil w []) ?_;have HR:=hx;refine Fx.new [] 2 #[O s,O t] 32 [] [] fun fT=>?_;refine Fx.new [] 3 #[O (s'),O (t')] 32 [] [] fun fJ=>?_;refine Fx.aV [] 4 32 [] [] fun fF=>?_;obtain ⟨⟨s4,t4⟩,k4,EX,HN⟩:=jL HR;refine Fx.call [3,4] 7 [] [] (fun W M=>aL6 EX _ (ht.later M.below)) ?_;refine Fx.cO jc [] 10 [] [] (fun W M=>qR (s:=s4) (t:=t4) _) HN fun _ HR=>?_;obtain ⟨hk,hv⟩:=HR;cases hk
 exact Fx.iy (cs:=#[O s4,O t4]) 2 fF [5] [(2,#[O s4,O t4])] (fun W M=>⟨M.below,.inl ⟨rfl,by cases hv rfl;rfl⟩⟩)
theorem ab6 {s t s' t' y y':ByteArray} {k:Int} (hx:gq (rT ⟨s,t⟩ ⟨s',t'⟩) ⟨y,y'⟩ k) (w:World) (ht:jN.Pow w) :
  Calls Tryz.prog 90 #[au #[O s,O t],au #[O s',O t']] w (Try w (au #[O y,O y']) k):=by
 refine Fx.door Tryz.func90 rfl (.nil w []) ?_;have HR:=hx;refine Fx.new [] 2 #[O s,O t] 32 [] [] fun fT=>?_;refine Fx.new [] 3 #[O (s'),O (t')] 32 [] [] fun fJ=>?_;refine Fx.aV [] 4 32 [] [] fun fF=>?_;obtain ⟨⟨s4,t4⟩,k4,EX,HN⟩:=jL HR;refine Fx.call [3,4] 7 [] [] (fun W M=>aK9 EX _ (ht.later M.below)) ?_;refine Fx.cO jc [] 10 [] [] (fun W M=>qR (s:=s4) (t:=t4) _) HN fun _ HR=>?_;obtain ⟨hk,hv⟩:=HR;cases hk
 exact Fx.iy (cs:=#[O s4,O t4]) 2 fF [5] [(2,#[O s4,O t4])] (fun W M=>⟨M.below,.inl ⟨rfl,by cases hv rfl;rfl⟩⟩)
theorem JX {s t s' t' y y':ByteArray} {k:Int} (hx:gq (kM ⟨s,t⟩ ⟨s',t'⟩) ⟨y,y'⟩ k) (w:World) (ht:jN.Pow w) :
  Calls Tryz.prog 91 #[au #[O s,O t],au #[O s',O t']] w (Try w (au #[O y,O y']) k):=by
 refine Fx.door Tryz.func91 rfl (.nil w []) ?_;have HR:=hx;refine Fx.new [] 2 #[O s,O t] 32 [] [] fun fT=>?_;refine Fx.new [] 3 #[O (s'),O (t')] 32 [] [] fun fJ=>?_;refine Fx.aV [] 4 32 [] [] fun fF=>?_;obtain ⟨⟨s4,t4⟩,k4,EX,HN⟩:=jL HR;refine Fx.call [3,4] 7 [] [] (fun W M=>aL1 EX _ (ht.later M.below)) ?_;refine Fx.cO jc [] 10 [] [] (fun W M=>qR (s:=s4) (t:=t4) _) HN fun _ HR=>?_;obtain ⟨hk,hv⟩:=HR;cases hk
 exact Fx.iy (cs:=#[O s4,O t4]) 2 fF [5] [(2,#[O s4,O t4])] (fun W M=>⟨M.below,.inl ⟨rfl,by cases hv rfl;rfl⟩⟩)
theorem AX {s t s' t' y y':ByteArray} {k:Int} (hx:gq (oN ⟨s,t⟩ ⟨s',t'⟩) ⟨y,y'⟩ k) (w:World) (ht:jN.Pow w) :
  Calls Tryz.prog 48 #[au #[O s,O t],au #[O s',O t']] w (Try w (au #[O y,O y']) k):=by
 refine Fx.door Tryz.func48 rfl (.nil w []) ?_;have HR:=hx;refine Fx.new [] 2 #[O s,O t] 32 [] [] fun fT=>?_;refine Fx.new [] 3 #[O (s'),O (t')] 32 [] [] fun fJ=>?_;refine Fx.aV [] 4 32 [] [] fun fF=>?_;obtain ⟨⟨s4,t4⟩,k4,EX,HN⟩:=jL HR;refine Fx.call [3,4] 7 [] [] (fun W M=>aL3 EX _ (ht.later M.below)) ?_;refine Fx.cO jc [] 10 [] [] (fun W M=>qR (s:=s4) (t:=t4) _) HN fun _ HR=>?_;obtain ⟨hk,hv⟩:=HR;cases hk
 exact Fx.iy (cs:=#[O s4,O t4]) 2 fF [5] [(2,#[O s4,O t4])] (fun W M=>⟨M.below,.inl ⟨rfl,by cases hv rfl;rfl⟩⟩)
theorem mg {n d:Int} {y y':ByteArray} {k:Int} (hx:gq (nk n d) ⟨y,y'⟩ k) (w:World) (ht:jN.Pow w) (n0: -9223372036854775808≤n:=by omega) (n1:n≤9223372036854775807:=by omega) (d0: -9223372036854775808≤d:=by omega) (d1:d≤9223372036854775807:=by omega) :
  Calls Tryz.prog 84 #[.int .i64 n,.int .i64 d] w (Try w (.agg #[.string y,.string y']) k):=by
 refine Fx.door Tryz.func84 rfl (.nil w []) ?_;have HR:=hx;refine Fx.aV [] 4 32 [] [] fun fT=>?_;obtain ⟨⟨s2,t2⟩,k2,EX,HN⟩:=jL HR;refine Fx.call [] 7 [] [] (fun W M=>cOf EX _ (ht.later M.below)) ?_;refine Fx.cO jc [] 10 [] [] (fun W M=>qR (s:=s2) (t:=t2) _) HN fun _ HR=>?_;obtain ⟨hk,hv⟩:=HR;cases hk
 exact Fx.iy (cs:=#[.string s2,.string t2]) 0 fT [3] [(0,#[.string s2,.string t2])] (fun W M=>⟨M.below,.inl ⟨rfl,by cases hv rfl;rfl⟩⟩)
theorem qI {s t:ByteArray} {x y k:Int} (hx:gq (aW.eF ⟨s,t⟩) (x,y) k) (w:World) (ht:jN.Pow w) (he:whole.Er w) :
  Calls Tryz.prog 110 #[au #[O s,O t]] w (Try w (au #[Z I x,Z I y]) k):=by
 refine Fx.door Tryz.func110 rfl (.nil w []) ?_;have HR:=hx;refine Fx.new [] 1 #[O s,O t] 32 [] [] fun fT=>?_;refine Fx.aV [] 2 40 [] [] fun fJ=>?_;obtain ⟨⟨x3,y3⟩,k3,EX,HN⟩:=jL HR;refine Fx.call [3] 4 [] [] (fun W M=>ZK EX _ (ht.later M.below) (he.later M.below)) ?_;refine Fx.cO jc [] 7 [] [] (fun W M=>jA (x:=x3) (y:=y3) _) HN fun _ HR=>?_;obtain ⟨hk,hv⟩:=HR;cases hk
 exact Fx.iy (cs:=#[Z I x3,Z I y3]) 1 fJ [4] [(1,#[Z I x3,Z I y3])] (fun W M=>⟨M.below,.inl ⟨rfl,by cases hv rfl;rfl⟩⟩)
def rJ (a b:Fr):Bool × Int:=bL false (rE a b) fun c=>qx (decide (0<c))
theorem Qe {s t s' t':ByteArray} {v:Bool} {k:Int} (hx:gq (rJ ⟨s,t⟩ ⟨s',t'⟩) v k) (w:World) :
  Calls Tryz.prog 123 #[au #[O s,O t],au #[O s',O t']] w (Try w (ak v) k):=by
 unfold rJ at hx;refine Fx.door Tryz.func123 rfl (.nil w []) ?_;have HR:=hx;refine Fx.new [] 2 #[O s,O t] 32 [] [] fun fT=>?_;refine Fx.new [] 3 #[O (s'),O (t')] 32 [] [] fun fJ=>?_;obtain ⟨v3,k3,EX,HN⟩:=aK HR;refine Fx.call [3,4] 7 [] [] (fun W M=>aL4 EX _) ?_;refine Fx.cO jc [] 10 [] [] (fun W M=>BG (v:=v3) _) HN fun _ HR=>?_;obtain ⟨hk,hv⟩:=HR;cases hk
 exact Fx.rV (v:=ak (decide (0<v3))) [] [] (fun W M=>⟨M.below,.inl ⟨rfl,by cases hv rfl;rfl⟩⟩)
theorem BD {n x y k:Int} (hx:gq (aW.Ut (n*1000000000000)) (x,y) k) (w:World) (h1: -1000≤n:=by omega) (h2:n≤1000:=by omega) :
  Calls Tryz.prog 52 #[.int .i64 n] w (Try w (.agg #[.int .i64 x,.int .i64 y]) k):=by
 have hw:IntKind.i64.wrap (n*1000000000000)=n*1000000000000:=by rw [IntKind.wrap_i64];omega
 refine Fx.door Tryz.func52 rfl (.nil w []) ?_;have HR:=hx;refine Fx.aV [] 2 40 [] [] fun fT=>?_;refine Fx.part 6 [] [(4,.int .i64 (IntKind.i64.wrap (n*1000000000000)))] [] ?_;refine Fx.nX (.int .i64 (n*1000000000000)) (Fx.wrap_i64 zo zo) ?_;obtain ⟨⟨x2,y2⟩,k2,EX,HN⟩:=jL HR;refine Fx.call [] 5 [] [] (fun W M=>an4 EX _) ?_;refine Fx.cO jc [] 8 [] [] (fun W M=>jA (x:=x2) (y:=y2) _) HN fun _ HR=>?_;obtain ⟨hk,hv⟩:=HR;cases hk
 exact Fx.iy (cs:=#[.int .i64 x2,.int .i64 y2]) 0 fT [3] [(0,#[.int .i64 x2,.int .i64 y2])] (fun W M=>⟨M.below,.inl ⟨rfl,by cases hv rfl;rfl⟩⟩)
theorem vR {u v n d x y k:Int} (hx:gq (aW.qw (u,v) n d) (x,y) k) (w:World) :
  Calls Tryz.prog 51 #[au #[Z I u,Z I v],Z I n,Z I d] w (Try w (au #[Z I x,Z I y]) k):=by
 refine Fx.door Tryz.func51 rfl (.nil w []) ?_;have HR:=hx;refine Fx.new [] 3 #[Z I u,Z I v] 40 [] [] fun fT=>?_;refine Fx.aV [] 6 40 [] [] fun fJ=>?_;obtain ⟨⟨x3,y3⟩,k3,EX,HN⟩:=jL HR;refine Fx.call [3] 10 [] [] (fun W M=>ZI EX _) ?_;refine Fx.cO jc [] 13 [] [] (fun W M=>jA (x:=x3) (y:=y3) _) HN fun _ HR=>?_;obtain ⟨hk,hv⟩:=HR;cases hk
 exact Fx.iy (cs:=#[Z I x3,Z I y3]) 1 fJ [4] [(1,#[Z I x3,Z I y3])] (fun W M=>⟨M.below,.inl ⟨rfl,by cases hv rfl;rfl⟩⟩)
theorem AZ (w:World):Calls Tryz.prog 47 #[] w (fun e w'=>e= ah (au #[.func (.func 122) #[] #[],.func (.func 125) #[] #[]])∧Below w.heap.size w w'):=by
 go_enter Tryz.func47,Tryz.ntmps47
 go_wp2_with fail
 refine ig rfl rfl bI Tryz.underlying93 rfl zk ?_;exact ⟨rfl,aJ⟩
def NH (t:Fr):(Int × Int) × Int :=
 bL (0,0) (nk 216 24389) fun r=>bL (0,0) (rJ t r) fun c=>cond c
  (bL (0,0) (aW.eF t) fun b=>bL (0,0) (power.pwE b.1 b.2 1 3) qx)
  (bL (0,0) (nk 841 108) fun p=>bL (0,0) (kM p t) fun m=>bL (0,0) (nk 4 29) fun q=>bL (0,0) (tY m q) fun s=>bL (0,0) (aW.eF s) qx)
theorem IQ {s t:ByteArray} {x y k:Int} (hx:gq (NH ⟨s,t⟩) (x,y) k) (w:World) (ht:jN.Pow w) (he:whole.Er w) :
  Calls Tryz.prog 122 #[au #[O s,O t]] w (Try w (au #[Z I x,Z I y]) k):=by
 unfold NH at hx;refine Fx.door Tryz.func122 rfl (.nil w []) ?_;have HR:=hx;refine Fx.new [] 1 #[O s,O t] 32 [] [] fun fT=>?_;refine Fx.aV [] 2 40 [] [] fun fJ=>?_;refine Fx.draw [] (dF 3) [] [] [] ?_;obtain ⟨⟨s3,t3⟩,_,EX,HN⟩:=aK HR;refine Fx.cO jc [3] 4 [(3,au #[O s,O t])] [] (fun W M=>mg (gq.of EX) _ (ht.later M.below)) HN fun _ HR=>?_;obtain ⟨v4,_,EX,HN⟩:=aK HR;refine Fx.cO jc [] 5 [] [] (fun W M=>Qe (gq.of EX) _) HN fun _ HR=>?_;cases v4
 ·skip
  replace HR:=gq.cond_false HR;refine Fx.draw [2] [1,0,2,3,4,5,6] [] [] [] ?_;obtain ⟨⟨s5,t5⟩,_,EX,HN⟩:=aK HR;refine Fx.cO jc [3] 12 [(13,au #[O s,O t])] [] (fun W M=>mg (gq.of EX) _ (ht.later M.below)) HN fun _ HR=>?_;obtain ⟨⟨s6,t6⟩,_,EX,HN⟩:=aK HR;refine Fx.cO jc [] 14 [] [] (fun W M=>JX (gq.of EX) _ (ht.later M.below)) HN fun _ HR=>?_;obtain ⟨⟨s7,t7⟩,_,EX,HN⟩:=aK HR;refine Fx.cO jc [] 15 [] [] (fun W M=>mg (gq.of EX) _ (ht.later M.below)) HN fun _ HR=>?_;obtain ⟨⟨s8,t8⟩,_,EX,HN⟩:=aK HR;refine Fx.cO jc [] 16 [] [] (fun W M=>Qb (gq.of EX) _ (ht.later M.below)) HN fun _ HR=>?_;obtain ⟨⟨x9,y9⟩,_,EX,HN⟩:=aK HR;refine Fx.cO jc [] 17 [] [] (fun W M=>qI (gq.of EX) _ (ht.later M.below) (he.later M.below)) HN fun _ HR=>?_;obtain ⟨hk,hv⟩:=HR;cases hk
  exact Fx.iy (cs:=#[Z I x9,Z I y9]) 1 fJ [4] [(1,#[Z I x9,Z I y9])] (fun W M=>⟨M.below,.inl ⟨rfl,by cases hv rfl;rfl⟩⟩)
 ·skip
  replace HR:=gq.cond_true HR;obtain ⟨⟨x10,y10⟩,_,EX,HN⟩:=aK HR;refine Fx.cO jc [1,3] 7 [] [] (fun W M=>qI (gq.of EX) _ (ht.later M.below) (he.later M.below)) HN fun _ HR=>?_;obtain ⟨⟨x11,y11⟩,k11,EX,HN⟩:=aK HR;refine Fx.call [] 8 [] [] (fun W M=>aA8 EX _ (ht.later M.below) (he.later M.below)) ?_;refine Fx.cO jc [] 11 [] [] (fun W M=>jA (x:=x11) (y:=y11) _) HN fun _ HR=>?_;obtain ⟨hk,hv⟩:=HR;cases hk
  exact Fx.iy (cs:=#[Z I x11,Z I y11]) 1 fJ [4] [(1,#[Z I x11,Z I y11])] (fun W M=>⟨M.below,.inl ⟨rfl,by cases hv rfl;rfl⟩⟩)
def gJ (f:Fr):Fr × Int :=
 bL Fr.no (nk 6 29) fun r=>bL Fr.no (rJ f r) fun c=>cond c
  (bL Fr.no (Ie f 3) qx)
  (bL Fr.no (nk 108 841) fun p=>bL Fr.no (nk 4 29) fun q=>bL Fr.no (rT f q) fun d=>bL Fr.no (kM p d) qx)
theorem TL {f r:Fr} {q:Rat} {k:Int} (h:rJ f r=(true,k)) (hr:rd r=some q) (hq:0≤q):∃ p,rd f=some p∧0≤p:=by
 unfold rJ rE at h;cases hf:rd f with
 | none =>
  rw [hf] at h;have:(false,(20:Int))=(true,k):=h;cases this
 | some p =>
  rw [hf,hr] at h;have h2:(decide (0<qL p q),(0:Int))=(true,k):=h;have h3:decide (0<qL p q)=true:=congrArg Prod.fst h2;refine ⟨p,rfl,?_⟩;have h4:=of_decide_eq_true h3;unfold qL at h4;split at h4
  ·omega
  ·split at h4
   ·rename_i h5
    grind
   ·omega
theorem aw3 {s t:ByteArray} (h:nk 6 29=(⟨s,t⟩,0)):rd ⟨s,t⟩=some (6 / 29):=by
 have e:nk 6 29=(Fr.of ((6:Int) / (29:Int):Rat),0):=by decide+kernel
 rw [e] at h;have h2:Fr.of ((6:Int) / (29:Int):Rat)=⟨s,t⟩:=congrArg Prod.fst h;rw [← h2];exact o9 (by decide+kernel)
theorem rZ {s t y y':ByteArray} {k:Int} (hx:gq (gJ ⟨s,t⟩) ⟨y,y'⟩ k) (w:World) (ht:jN.Pow w) :
  Calls Tryz.prog 125 #[au #[O s,O t]] w (Try w (au #[O y,O y']) k):=by
 unfold gJ at hx;refine Fx.door Tryz.func125 rfl (.nil w []) ?_;have HR:=hx;refine Fx.new [] 1 #[O s,O t] 32 [] [] fun fT=>?_;refine Fx.aV [] 2 32 [] [] fun fJ=>?_;refine Fx.draw [] (dF 3) [] [] [] ?_;obtain ⟨⟨s3,t3⟩,k3,EX,HN⟩:=aK HR;refine Fx.cO jc [3] 4 [(3,au #[O s,O t])] [] (fun W M=>mg (gq.of EX) _ (ht.later M.below)) HN fun h0 HR=>?_;subst h0;have E1:=EX;obtain ⟨v4,k4,EX,HN⟩:=aK HR;refine Fx.cO jc [] 5 [] [] (fun W M=>Qe (gq.of EX) _) HN fun h0 HR=>?_;subst h0;have E2:=EX;cases v4
 ·skip
  replace HR:=gq.cond_false HR;refine Fx.draw [2] [1,0,2,3,4,5] [] [] [] ?_;obtain ⟨⟨s5,t5⟩,k5,EX,HN⟩:=aK HR;refine Fx.cO jc [3] 11 [(12,au #[O s,O t])] [] (fun W M=>mg (gq.of EX) _ (ht.later M.below)) HN fun h0 HR=>?_;subst h0;obtain ⟨⟨s6,t6⟩,k6,EX,HN⟩:=aK HR;refine Fx.cO jc [] 13 [] [] (fun W M=>mg (gq.of EX) _ (ht.later M.below)) HN fun h0 HR=>?_;subst h0;obtain ⟨⟨s7,t7⟩,k7,EX,HN⟩:=aK HR;refine Fx.cO jc [] 14 [] [] (fun W M=>ab6 (gq.of EX) _ (ht.later M.below)) HN fun h0 HR=>?_;subst h0;obtain ⟨⟨s8,t8⟩,k8,EX,HN⟩:=aK HR;refine Fx.cO jc [] 15 [] [] (fun W M=>JX (gq.of EX) _ (ht.later M.below)) HN fun h0 HR=>?_;subst h0;obtain ⟨hk,hv⟩:=HR;cases hk
  exact Fx.iy (cs:=#[O s8,O t8]) 1 fJ [4] [(1,#[O s8,O t8])] (fun W M=>⟨M.below,.inl ⟨rfl,by cases hv rfl;rfl⟩⟩)
 ·skip
  replace HR:=gq.cond_true HR;obtain ⟨⟨s9,t9⟩,k9,EX,HN⟩:=aK HR;refine Fx.call [1,3] 7 [] [] (fun W M=>aL0 EX _ (ht.later M.below) (TL E2 (aw3 E1) (by decide+kernel))) ?_;refine Fx.cO jc [] 10 [] [] (fun W M=>qR (s:=s9) (t:=t9) _) HN fun h0 HR=>?_;subst h0;obtain ⟨hk,hv⟩:=HR;cases hk
  exact Fx.iy (cs:=#[O s9,O t9]) 1 fJ [4] [(1,#[O s9,O t9])] (fun W M=>⟨M.below,.inl ⟨rfl,by cases hv rfl;rfl⟩⟩)
theorem aw6 {lo hi k:Int} {y y':ByteArray} (hx:gq (aW.JY (lo,hi)) ⟨y,y'⟩ k) (w:World) (ht:jN.Pow w) (hb:aW.gM lo hi=true) :
  Calls Tryz.prog 181 #[au #[Z I lo,Z I hi]] w (Try w (au #[O y,O y']) k):=by
 refine Fx.door Tryz.func181 rfl (.nil w []) ?_;have HR:=hx;refine Fx.new [] 1 #[Z I lo,Z I hi] 202 [] [] fun fT=>?_;refine Fx.aV [] 2 32 [] [] fun fJ=>?_;obtain ⟨⟨s3,t3⟩,k3,EX,HN⟩:=jL HR;refine Fx.call [3] 5 [] [] (fun W M=>aL2 EX _ (ht.later M.below) hb) ?_;refine Fx.cO jc [] 8 [] [] (fun W M=>qR (s:=s3) (t:=t3) _) HN fun _ HR=>?_;obtain ⟨hk,hv⟩:=HR;cases hk
 exact Fx.iy (cs:=#[O s3,O t3]) 1 fJ [4] [(1,#[O s3,O t3])] (fun W M=>⟨M.below,.inl ⟨rfl,by cases hv rfl;rfl⟩⟩)
theorem aj5 {lo hi k:Int} {y y':ByteArray} (hx:gq (aW.AO (lo,hi)) ⟨y,y'⟩ k) (w:World) (ht:jN.Pow w) (hb:aW.gM lo hi=true) :
  Calls Tryz.prog 182 #[au #[Z I lo,Z I hi]] w (Try w (au #[O y,O y']) k):=by
 refine Fx.door Tryz.func182 rfl (.nil w []) ?_;have HR:=hx;refine Fx.new [] 1 #[Z I lo,Z I hi] 202 [] [] fun fT=>?_;refine Fx.aV [] 2 32 [] [] fun fJ=>?_;obtain ⟨⟨s3,t3⟩,k3,EX,HN⟩:=jL HR;refine Fx.call [3] 5 [] [] (fun W M=>aA9 EX _ (ht.later M.below) hb) ?_;refine Fx.cO jc [] 8 [] [] (fun W M=>qR (s:=s3) (t:=t3) _) HN fun _ HR=>?_;obtain ⟨hk,hv⟩:=HR;cases hk
 exact Fx.iy (cs:=#[O s3,O t3]) 1 fJ [4] [(1,#[O s3,O t3])] (fun W M=>⟨M.below,.inl ⟨rfl,by cases hv rfl;rfl⟩⟩)
def z3:(Int × Int) × (Int × Int) × (Int × Int):=((0,0),(0,0),(0,0))
def t0:light.iC:=⟨Fr.no,Fr.no,Fr.no⟩
def H8 (f:Fr):Fr × Int:=bL Fr.no (nk 128 1) fun p=>bL Fr.no (tY f p) fun s=>bL Fr.no (nk 256 1) fun q=>bL Fr.no (oN s q) qx
def encI (t:light.iC):light.iC × Int:=bL t0 (nk 100 1) fun h=>bL t0 (oN t.x h) fun a=>bL t0 (H8 t.y) fun b=>bL t0 (H8 t.z) fun c=>qx ⟨a,b,c⟩
theorem OW {s t y y':ByteArray} {k:Int} (hx:gq (H8 ⟨s,t⟩) ⟨y,y'⟩ k) (w:World) (ht:jN.Pow w) :
  Calls Tryz.prog 82 #[au #[O s,O t]] w (Try w (au #[O y,O y']) k):=by
 unfold H8 at hx;refine Fx.door Tryz.func82 rfl (.nil w []) ?_;have HR:=hx;refine Fx.new [] 1 #[O s,O t] 32 [] [] fun fT=>?_;refine Fx.aV [] 2 32 [] [] fun fJ=>?_;refine Fx.draw [] (dF 6) [] [] [] ?_;obtain ⟨⟨s3,t3⟩,_,EX,HN⟩:=aK HR;refine Fx.cO jc [3] 4 [(3,au #[O s,O t])] [] (fun W M=>mg (gq.of EX) _ (ht.later M.below)) HN fun _ HR=>?_;obtain ⟨⟨s4,t4⟩,_,EX,HN⟩:=aK HR;refine Fx.cO jc [] 5 [] [] (fun W M=>Qb (gq.of EX) _ (ht.later M.below)) HN fun _ HR=>?_;obtain ⟨⟨s5,t5⟩,_,EX,HN⟩:=aK HR;refine Fx.cO jc [] 6 [] [] (fun W M=>mg (gq.of EX) _ (ht.later M.below)) HN fun _ HR=>?_;obtain ⟨⟨s6,t6⟩,_,EX,HN⟩:=aK HR;refine Fx.cO jc [] 7 [] [] (fun W M=>AX (gq.of EX) _ (ht.later M.below)) HN fun _ HR=>?_;obtain ⟨hk,hv⟩:=HR;cases hk
 exact Fx.iy (cs:=#[O s6,O t6]) 1 fJ [4] [(1,#[O s6,O t6])] (fun W M=>⟨M.below,.inl ⟨rfl,by cases hv rfl;rfl⟩⟩)
theorem al9 {a1 a2 a3 a4 a5 a6 y1 y2 y3 y4 y5 y6:ByteArray} {k:Int} {p:Nat} (hx:gq (encI ⟨⟨a1,a2⟩,⟨a3,a4⟩,⟨a5,a6⟩⟩) ⟨⟨y1,y2⟩,⟨y3,y4⟩,⟨y5,y6⟩⟩ k) (w:World)
  (hp:aB w p #[O a1,O a2,O a3,O a4,O a5,O a6] 34) (ht:jN.Pow w) :
  Calls Tryz.prog 81 #[aA (some ⟨p,0,none⟩)] w (Try w (au #[O y1,O y2,O y3,O y4,O y5,O y6]) k):=by
 unfold encI at hx;refine Fx.door Tryz.func81 rfl (.ro hp (.nil w [])) ?_;have HR:=hx;refine Fx.aV [] 1 34 [] [] fun fT=>?_;refine Fx.draw [] [0,1,4,5,6,8,9,10,2,3,7,11,12,13] [] [(2,.func (.func 82) #[] #[])] [] ?_;obtain ⟨⟨s2,t2⟩,_,EX,HN⟩:=aK HR;refine Fx.cO jc [3,3,3] 5 [(4,au #[O a1,O a2]),(7,.func (.func 82) #[] #[]),(9,au #[O a3,O a4]),(11,.func (.func 82) #[] #[]),(13,au #[O a5,O a6])] [] (fun W M=>mg (gq.of EX) _ (ht.later M.below)) HN fun _ HR=>?_;obtain ⟨⟨s3,t3⟩,_,EX,HN⟩:=aK HR;refine Fx.cO jc [] 6 [] [] (fun W M=>AX (gq.of EX) _ (ht.later M.below)) HN fun _ HR=>?_;obtain ⟨⟨s4,t4⟩,_,EX,HN⟩:=aK HR;refine Fx.cO jc [] 10 [] [] (fun W M=>OW (gq.of EX) _ (ht.later M.below)) HN fun _ HR=>?_;obtain ⟨⟨s5,t5⟩,_,EX,HN⟩:=aK HR
 refine Fx.cO jc [] 14 [] [] (fun W M=>OW (gq.of EX) _ (ht.later M.below)) HN fun _ HR=>?_;obtain ⟨hk,hv⟩:=HR;cases hk
 exact Fx.iy (cs:=#[O s3,O t3,O s4,O t4,O s5,O t5]) 1 fT [4] [(1,#[O s3,O t3,O s4,O t4,O s5,O t5])] (fun W M=>⟨M.below,.inl ⟨rfl,by cases hv rfl;rfl⟩⟩)
def J7 (b:Int × Int):(Int × Int) × Int :=
 bL (0,0) (aW.JY b) fun p=>bL (0,0) (gJ p) fun x=>bL (0,0) (aW.eF x) fun lo =>
 bL (0,0) (aW.AO b) fun q=>bL (0,0) (gJ q) fun y=>bL (0,0) (aW.eF y) fun hi=>bL (0,0) (aW.ofE lo.1 hi.2) qx
theorem uV {lo hi x y k:Int} (hx:gq (J7 (lo,hi)) (x,y) k) (w:World) (ht:jN.Pow w) (he:whole.Er w) (hb:aW.gM lo hi=true) :
  Calls Tryz.prog 109 #[au #[Z I lo,Z I hi]] w (Try w (au #[Z I x,Z I y]) k):=by
 unfold J7 at hx;refine Fx.door Tryz.func109 rfl (.nil w []) ?_;have HR:=hx;refine Fx.new [] 1 #[Z I lo,Z I hi] 40 [] [] fun fT=>?_;refine Fx.aV [] 2 40 [] [] fun fJ=>?_;refine Fx.aV [] 3 70 [] [] fun fF=>?_;refine Fx.draw [1] [0,3,4,5,1,2,6,7,8,9,10] [] [(6,au #[.func (.func 181) #[] #[],.func (.func 182) #[] #[]]),(7,Z I 0),(4,Z I 0),(5,.func (.func 181) #[] #[])] [] ?_;refine Fx.call [3] 12 [(11,Z I 0),(14,.func (.func 181) #[] #[]),(16,au #[Z I lo,Z I hi])] [] (fun W M=>AZ _) ?_;obtain ⟨⟨s5,t5⟩,_,EX,HN⟩:=aK HR;refine Fx.cO jc [] 17 [(13,.func (.func 125) #[] #[])] [] (fun W M=>aw6 (gq.of EX) _ (ht.later M.below) hb) HN fun _ HR=>?_;obtain ⟨⟨s6,t6⟩,_,EX,HN⟩:=aK HR;refine Fx.cO jc [] 18 [] [] (fun W M=>rZ (gq.of EX) _ (ht.later M.below)) HN fun _ HR=>?_;obtain ⟨⟨x7,y7⟩,_,EX,HN⟩:=aK HR
 refine Fx.cO jc [] 19 [] [] (fun W M=>qI (gq.of EX) _ (ht.later M.below) (he.later M.below)) HN fun _ HR=>?_;refine Fx.draw [5,1] [0,3,4,5,1,2,6,7,8,9,10] [] [(7,Z I 1),(4,Z I 1),(5,.func (.func 182) #[] #[])] [(2,#[Z I x7,Z I y7,Z I 0,Z I 0])] ?_;refine Fx.call [3] 12 [(11,Z I 1),(14,.func (.func 182) #[] #[]),(16,au #[Z I lo,Z I hi])] [] (fun W M=>AZ _) ?_;obtain ⟨⟨s9,t9⟩,_,EX,HN⟩:=aK HR;refine Fx.cO jc [] 17 [(13,.func (.func 125) #[] #[])] [] (fun W M=>aj5 (gq.of EX) _ (ht.later M.below) hb) HN fun _ HR=>?_;obtain ⟨⟨s10,t10⟩,_,EX,HN⟩:=aK HR;refine Fx.cO jc [] 18 [] [] (fun W M=>rZ (gq.of EX) _ (ht.later M.below)) HN fun _ HR=>?_;obtain ⟨⟨x11,y11⟩,_,EX,HN⟩:=aK HR
 refine Fx.cO jc [] 19 [] [] (fun W M=>qI (gq.of EX) _ (ht.later M.below) (he.later M.below)) HN fun _ HR=>?_;obtain ⟨⟨UE,UD⟩,k12,EX,HN⟩:=aK HR;refine Fx.call [5,2,5,5] 28 [(7,Z I 2)] [(2,#[Z I x7,Z I y7,Z I x11,Z I y11])] (fun W M=>aL5 EX _) ?_;refine Fx.cO jc [] 31 [] [] (fun W M=>jA (x:=UE) (y:=UD) _) HN fun _ HR=>?_;obtain ⟨hk,hv⟩:=HR;cases hk
 exact Fx.iy (cs:=#[Z I UE,Z I UD]) 1 fJ [4] [(1,#[Z I UE,Z I UD])] (fun W M=>⟨M.below,.inl ⟨rfl,by cases hv rfl;rfl⟩⟩)
def ZA (x w:Fr):(Int × Int) × Int:=bL (0,0) (oN x w) fun t=>bL (0,0) (NH t) qx
theorem Me {a1 a2 a3 a4 a5 a6 b1 b2 b3 b4 b5 b6:ByteArray} {x y k:Int} {p q:Nat} (hx:gq (ZA ⟨a1,a2⟩ ⟨b1,b2⟩) (x,y) k) (w:World)
  (hp:aB w p #[O a1,O a2,O a3,O a4,O a5,O a6] 34) (hq:aB w q #[O b1,O b2,O b3,O b4,O b5,O b6] 34) (ht:jN.Pow w) (he:whole.Er w) :
  Calls Tryz.prog 46 #[Z I 0,aA (some ⟨p,0,none⟩),aA (some ⟨q,0,none⟩)] w (Try w (au #[Z I x,Z I y]) k):=by
 unfold ZA at hx;refine Fx.door Tryz.func46 rfl (.ro hp (.ro hq (.nil w []))) ?_;have HR:=hx;refine Fx.aV [] 4 40 [] [] fun fT=>?_;refine Fx.draw [] [2,3,4,5,6,7,0,1,8,9,10] [] [] [] ?_;refine Fx.call [3,4] 5 [(9,au #[O a1,O a2]),(12,au #[O b1,O b2])] [] (fun W M=>AZ _) ?_;obtain ⟨⟨s3,t3⟩,_,EX,HN⟩:=aK HR;refine Fx.cO jc [] 13 [(6,.func (.func 122) #[] #[])] [] (fun W M=>AX (gq.of EX) _ (ht.later M.below)) HN fun _ HR=>?_;obtain ⟨⟨x4,y4⟩,_,EX,HN⟩:=aK HR;refine Fx.cO jc [] 14 [] [] (fun W M=>IQ (gq.of EX) _ (ht.later M.below) (he.later M.below)) HN fun _ HR=>?_;obtain ⟨hk,hv⟩:=HR;cases hk
 exact Fx.iy (cs:=#[Z I x4,Z I y4]) 2 fT [5] [(2,#[Z I x4,Z I y4])] (fun W M=>⟨M.below,.inl ⟨rfl,by cases hv rfl;rfl⟩⟩)
theorem L9 {a1 a2 a3 a4 a5 a6 b1 b2 b3 b4 b5 b6:ByteArray} {x y k:Int} {p q:Nat} (hx:gq (ZA ⟨a3,a4⟩ ⟨b3,b4⟩) (x,y) k) (w:World)
  (hp:aB w p #[O a1,O a2,O a3,O a4,O a5,O a6] 34) (hq:aB w q #[O b1,O b2,O b3,O b4,O b5,O b6] 34) (ht:jN.Pow w) (he:whole.Er w) :
  Calls Tryz.prog 46 #[Z I 1,aA (some ⟨p,0,none⟩),aA (some ⟨q,0,none⟩)] w (Try w (au #[Z I x,Z I y]) k):=by
 unfold ZA at hx;refine Fx.door Tryz.func46 rfl (.ro hp (.ro hq (.nil w []))) ?_;have HR:=hx;refine Fx.aV [] 4 40 [] [] fun fT=>?_;refine Fx.draw [] [2,3,4,5,6,7,0,1,8,9,10] [] [] [] ?_;refine Fx.call [3,4] 5 [(9,au #[O a3,O a4]),(12,au #[O b3,O b4])] [] (fun W M=>AZ _) ?_;obtain ⟨⟨s3,t3⟩,_,EX,HN⟩:=aK HR;refine Fx.cO jc [] 13 [(6,.func (.func 122) #[] #[])] [] (fun W M=>AX (gq.of EX) _ (ht.later M.below)) HN fun _ HR=>?_;obtain ⟨⟨x4,y4⟩,_,EX,HN⟩:=aK HR;refine Fx.cO jc [] 14 [] [] (fun W M=>IQ (gq.of EX) _ (ht.later M.below) (he.later M.below)) HN fun _ HR=>?_;obtain ⟨hk,hv⟩:=HR;cases hk
 exact Fx.iy (cs:=#[Z I x4,Z I y4]) 2 fT [5] [(2,#[Z I x4,Z I y4])] (fun W M=>⟨M.below,.inl ⟨rfl,by cases hv rfl;rfl⟩⟩)
theorem L8 {a1 a2 a3 a4 a5 a6 b1 b2 b3 b4 b5 b6:ByteArray} {x y k:Int} {p q:Nat} (hx:gq (ZA ⟨a5,a6⟩ ⟨b5,b6⟩) (x,y) k) (w:World)
  (hp:aB w p #[O a1,O a2,O a3,O a4,O a5,O a6] 34) (hq:aB w q #[O b1,O b2,O b3,O b4,O b5,O b6] 34) (ht:jN.Pow w) (he:whole.Er w) :
  Calls Tryz.prog 46 #[Z I 2,aA (some ⟨p,0,none⟩),aA (some ⟨q,0,none⟩)] w (Try w (au #[Z I x,Z I y]) k):=by
 unfold ZA at hx;refine Fx.door Tryz.func46 rfl (.ro hp (.ro hq (.nil w []))) ?_;have HR:=hx;refine Fx.aV [] 4 40 [] [] fun fT=>?_;refine Fx.draw [] [2,3,4,5,6,7,0,1,8,9,10] [] [] [] ?_;refine Fx.call [3,4] 5 [(9,au #[O a5,O a6]),(12,au #[O b5,O b6])] [] (fun W M=>AZ _) ?_;obtain ⟨⟨s3,t3⟩,_,EX,HN⟩:=aK HR;refine Fx.cO jc [] 13 [(6,.func (.func 122) #[] #[])] [] (fun W M=>AX (gq.of EX) _ (ht.later M.below)) HN fun _ HR=>?_;obtain ⟨⟨x4,y4⟩,_,EX,HN⟩:=aK HR;refine Fx.cO jc [] 14 [] [] (fun W M=>IQ (gq.of EX) _ (ht.later M.below) (he.later M.below)) HN fun _ HR=>?_;obtain ⟨hk,hv⟩:=HR;cases hk
 exact Fx.iy (cs:=#[Z I x4,Z I y4]) 2 fT [5] [(2,#[Z I x4,Z I y4])] (fun W M=>⟨M.below,.inl ⟨rfl,by cases hv rfl;rfl⟩⟩)
def PD (t w:light.iC):((Int × Int) × (Int × Int) × (Int × Int)) × Int :=
 bL z3 (ZA t.x w.x) fun fx=>bL z3 (ZA t.y w.y) fun fy=>bL z3 (ZA t.z w.z) fun fz =>
 bL z3 (aW.qw fy 116 1) fun s=>bL z3 (aW.Ut (16*1000000000000)) fun p=>bL z3 (aW.wH s p) fun l =>
 bL z3 (aW.wH fx fy) fun d=>bL z3 (aW.qw d 500 1) fun a=>bL z3 (aW.wH fy fz) fun g=>bL z3 (aW.qw g 200 1) fun b=>qx (l,a,b)
theorem UQ {a1 a2 a3 a4 a5 a6 b1 b2 b3 b4 b5 b6:ByteArray} {x1 x2 x3 x4 x5 x6 k:Int} {p q:Nat} (hx:gq (PD ⟨⟨a1,a2⟩,⟨a3,a4⟩,⟨a5,a6⟩⟩ ⟨⟨b1,b2⟩,⟨b3,b4⟩,⟨b5,b6⟩⟩) ((x1,x2),(x3,x4),(x5,x6)) k) (w:World)
  (hp:aB w p #[O a1,O a2,O a3,O a4,O a5,O a6] 34) (hq:aB w q #[O b1,O b2,O b3,O b4,O b5,O b6] 34) (ht:jN.Pow w) (he:whole.Er w) :
  Calls Tryz.prog 45 #[aA (some ⟨p,0,none⟩),aA (some ⟨q,0,none⟩)] w (Try w (au #[Z I x1,Z I x2,Z I x3,Z I x4,Z I x5,Z I x6]) k):=by
 unfold PD at hx;refine Fx.door Tryz.func45 rfl (.ro hp (.ro hq (.nil w []))) ?_;have HR:=hx;refine Fx.aV [] 2 42 [] [] fun fT=>?_;obtain ⟨⟨x2,y2⟩,_,EX,HN⟩:=aK HR;refine Fx.cO jc [] 9 [(3,.func (.func 46) #[] #[aA (some ⟨p,0,none⟩),aA (some ⟨q,0,none⟩)])] [] (fun W M=>Me (gq.of EX) _ (M.box (b:=p) (cs:=#[O a1,O a2,O a3,O a4,O a5,O a6]) 0) (M.box (b:=q) (cs:=#[O b1,O b2,O b3,O b4,O b5,O b6]) 1) (ht.later M.below) (he.later M.below)) HN fun _ HR=>?_;obtain ⟨⟨x3,y3⟩,_,EX,HN⟩:=aK HR
 refine Fx.cO jc [] 11 [] [] (fun W M=>L9 (gq.of EX) _ (M.box (b:=p) (cs:=#[O a1,O a2,O a3,O a4,O a5,O a6]) 0) (M.box (b:=q) (cs:=#[O b1,O b2,O b3,O b4,O b5,O b6]) 1) (ht.later M.below) (he.later M.below)) HN fun _ HR=>?_;obtain ⟨⟨x4,y4⟩,_,EX,HN⟩:=aK HR;refine Fx.cO jc [] 13 [] [] (fun W M=>L8 (gq.of EX) _ (M.box (b:=p) (cs:=#[O a1,O a2,O a3,O a4,O a5,O a6]) 0) (M.box (b:=q) (cs:=#[O b1,O b2,O b3,O b4,O b5,O b6]) 1) (ht.later M.below) (he.later M.below)) HN fun _ HR=>?_;refine Fx.aV [] 4 40 [] [] fun rQ=>?_;refine Fx.aV [] 5 40 [] [] fun P9=>?_;refine Fx.aV [] 6 40 [] [] fun P8=>?_
 refine Fx.draw [6,7,8] [0,7,8,14,15,1,2,3,4,5,6,9,10,11,12,13,16,17,18,19,20,21,22] [] [] [(3,#[Z I x2,Z I y2]),(4,#[Z I x3,Z I y3]),(5,#[Z I x4,Z I y4])] ?_;obtain ⟨⟨x8,y8⟩,_,EX,HN⟩:=aK HR;refine Fx.cO jc [7,6,7,7,8] 15 [(21,au #[Z I x2,Z I y2]),(22,au #[Z I x3,Z I y3]),(28,au #[Z I x3,Z I y3]),(29,au #[Z I x4,Z I y4])] [] (fun W M=>vR (gq.of EX) _) HN fun _ HR=>?_;obtain ⟨⟨x9,y9⟩,_,EX,HN⟩:=aK HR;refine Fx.cO jc [] 16 [] [] (fun W M=>BD (gq.of EX) _) HN fun _ HR=>?_;obtain ⟨⟨x10,y10⟩,k10,EX,HN⟩:=aK HR;refine Fx.call [] 17 [] [] (fun W M=>P7 EX _) ?_;refine Fx.cO jc [] 20 [] [] (fun W M=>jA (x:=x10) (y:=y10) _) HN fun _ HR=>?_;obtain ⟨⟨UE,UD⟩,k12,EX,HN⟩:=aK HR;refine Fx.call [] 23 [] [] (fun W M=>P7 EX _) ?_
 refine Fx.cO jc [] 26 [] [] (fun W M=>jA (x:=UE) (y:=UD) _) HN fun _ HR=>?_;obtain ⟨⟨x14,y14⟩,_,EX,HN⟩:=aK HR;refine Fx.cO jc [] 27 [] [] (fun W M=>vR (gq.of EX) _) HN fun _ HR=>?_;obtain ⟨⟨x15,y15⟩,k15,EX,HN⟩:=aK HR;refine Fx.call [] 30 [] [] (fun W M=>P7 EX _) ?_;refine Fx.cO jc [] 33 [] [] (fun W M=>jA (x:=x15) (y:=y15) _) HN fun _ HR=>?_;obtain ⟨⟨x17,y17⟩,_,EX,HN⟩:=aK HR;refine Fx.cO jc [] 34 [] [] (fun W M=>vR (gq.of EX) _) HN fun _ HR=>?_;obtain ⟨hk,hv⟩:=HR;cases hk
 exact Fx.iy (cs:=#[Z I x10,Z I y10,Z I x14,Z I y14,Z I x17,Z I y17]) 2 fT [5] [(2,#[Z I x10,Z I y10,Z I x14,Z I y14,Z I x17,Z I y17])] (fun W M=>⟨M.below,.inl ⟨rfl,by cases hv rfl;rfl⟩⟩)
end Go.Proofs.lab
namespace Go.Proofs
open Go Go.RowKit Go.SW Go.Num Go.Mem Go.gB
theorem Xf {x y u v a b k:Int} {q:Nat} (hx:power.YP [(x,y),(u,v)]=((a,b),k)) (w:World) (hq:aB w q #[Z I x,Z I y,Z I u,Z I v] 40) (ht:jN.Pow w) (he:whole.Er w):Calls Tryz.prog 71 #[aj (some ⟨q,0,none⟩) 2 2] w (fun e w'=>e= ah (aD #[au #[Z I a,Z I b],Z I k])∧Below w.heap.size w w'):=by
 have h:=power.Z9 _ _ [(x,y),(u,v)] w (zG.two hq) ht he;rw [hx] at h;exact h
theorem aW.Dc {lo hi x y k:Int} (h:aW.gN lo hi=((x,y),k)) (h0:k=0):aW.gM x y=true:=by
 unfold aW.gN at h;subst h0;cases hb:aW.gM lo hi<;>rw [hb] at h
 ·cases h
 ·have h2:((lo,hi),(0:Int))=((x,y),0):=h;cases h2
  exact hb
theorem aW.Qc {a b:Int × Int} {x y k:Int} (h:aW.kH a b=((x,y),k)) (h0:k=0):aW.gM x y=true:=by
 unfold aW.kH at h;split at h
 ·exact aW.Dc h h0
 ·subst h0;cases h
theorem aW.OV {a b:Int × Int} {x y k:Int} (h:aW.wH a b=((x,y),k)) (h0:k=0):aW.gM x y=true:=by
 unfold aW.wH at h;split at h
 ·exact aW.Dc h h0
 ·subst h0;cases h
theorem aW.Ym {Q:Int→Int→Bool→Int × Bool} {a b:Int × Int} {x y k:Int} (h:aW.sU Q a b=((x,y),k)) (h0:k=0):aW.gM x y=true:=by
 unfold aW.sU at h;split at h
 ·exact aW.Dc h h0
 ·subst h0;cases h
theorem aW.O5 {b:Int × Int} {n d x y k:Int} (h:aW.qw b n d=((x,y),k)) (h0:k=0):aW.gM x y=true:=by
 unfold aW.qw aW.Vb at h;split at h
 ·split at h
  ·subst h0;cases h
  ·exact aW.Ym h h0
 ·subst h0;cases h
end Go.Proofs
