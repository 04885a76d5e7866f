/- Lemmas for the proof. No condition. -/
import Derived.Test.YtlpjmogillpnbaaGreatDoorTB28
import Derived.Test.YtlpjmogillpnbaaGreatDoorTB33
set_option linter.unusedVariables false
set_option linter.unusedSimpArgs false
set_option maxRecDepth 100000
set_option maxHeartbeats 16000000
open Go.Ending renaming returned → ah
open Go.IntKind renaming i64 → I
open Go.Value renaming agg → au, bool → ay, int → Z, pointer → aA, slice → aj, string → O, tuple → aD
namespace Go.Proofs.verdigrislaw27
open Go Go.RowKit Go.SW Go.Num Go.Mem Go.Proofs Go.gW Go.Fx
def Clo (f:FuncId) (n:Int) (T:TypeId) (k:IntKind) (w:World) (e:Ending) (w':World):Prop:=∃ b,e= ah (.func (.func f) #[] #[aA (some ⟨b,0,none⟩)])∧Below w.heap.size w w'∧aC w' b #[.int k n] T
theorem Nl (n:Int) (w:World):Calls Tryz.prog 25 #[Z I n] w (Clo 60 n 3 .i64 w):=by
 refine Fx.door Tryz.func25 rfl (.nil w []) ?_;refine Fx.new [] 1 #[Z I n] 3 [] [] fun gV=>?_;exact Fx.jU (v:=.func (.func 60) #[] #[aA (some ⟨gV,0,none⟩)]) [] [] (fun W M=>by have HB:=M.below;exact ⟨_,rfl,HB,M.box 0⟩)
theorem nK (n:Int) (w:World):Calls Tryz.prog 20 #[Z I n] w (Clo 49 n 36 .i64 w):=by
 refine Fx.door Tryz.func20 rfl (.nil w []) ?_;refine Fx.new [] 1 #[Z I n] 36 [] [] fun gV=>?_;exact Fx.jU (v:=.func (.func 49) #[] #[aA (some ⟨gV,0,none⟩)]) [] [] (fun W M=>by have HB:=M.below;exact ⟨_,rfl,HB,M.box 0⟩)
theorem yh {n m:Int} (h:n*1000000000000=m) {q:Nat} (w:World) (hq:aC w q #[.int .i64 n] 3) (h1:0≤m∧m≤1000000000000000:=by decide) :
  Calls Tryz.prog 60 #[.agg #[.int .i64 m,.int .i64 m],.int .i64 0,.pointer (some ⟨q,0,none⟩)] w (fun e w'=>e= .returned (.bool true)∧Below w.heap.size w w'):=by
 have hm:Value.int .i64 (IntKind.i64.wrap (n*1000000000000))= .int .i64 m:=by
  rw [h,show IntKind.i64.wrap m=m by rw [IntKind.wrap_i64];omega]
 refine Fx.door Tryz.func60 rfl (.ro hq (.nil w [])) ?_;refine Fx.new [] 3 #[.int .i64 m,.int .i64 m] 35 [] [] fun gV=>?_;refine Fx.part 8 [4,3] [(8,.int .i64 (IntKind.i64.wrap (n*1000000000000))),(6,.agg #[.int .i64 m,.int .i64 m])] [] ?_;refine Fx.uO (.int .i64 m) (hm) ?_;refine Fx.part 2 [3] [(10,.int .i64 (IntKind.i64.wrap (n*1000000000000)))] [] ?_;refine Fx.uO (.int .i64 m) (hm) ?_;refine Fx.eql 1 [] 12 true true 35 (.agg #[.int .i64 m,.int .i64 m]) (.agg #[.int .i64 m,.int .i64 m]) [] [] (fun W=>(aQ.nH m m m m W).trans zi) ?_;exact Fx.jU [] [] (fun W M=>⟨rfl,M.below⟩)
theorem j4 {n:Int} {q:Nat} (w:World) (hq:aC w q #[Z I n] 36) :
  Calls Tryz.prog 49 #[au #[Z I 0,Z I 0],Z I n,aA (some ⟨q,0,none⟩)] w (fun e w'=>e= ah (ay true)∧Below w.heap.size w w'):=by
 refine Fx.door Tryz.func49 rfl (.ro hq (.nil w [])) ?_;refine Fx.new [] 3 #[Z I 0,Z I 0] 35 [] [] fun gV=>?_;refine Fx.part 12 [4,3] [(12,ay (n == n)),(9,ay true)] [] ?_;refine Fx.PO true zi ?_;exact Fx.jU [] [] (fun W M=>⟨rfl,M.below⟩)
end Go.Proofs.verdigrislaw27
namespace Go.Proofs.differ
open Go Go.RowKit Go.SW Go.Num Go.Mem Go.Proofs Go.gW Go.Fx
def thrown (er:Int):Ending:=.panicked [{ v:=.iface 99 (au #[Z I er]),recovered:=false }]
abbrev Try:=yR thrown
theorem bR (k:Int):∃ c,thrown k= .panicked c:=⟨_,rfl⟩
theorem wG (w:World):Calls Tryz.prog 30 #[Z I 0] w (fun e w'=>e= ah (aD #[])∧w'=w):=by
 go_enter Tryz.func30,Tryz.ntmps30
 go_wp2_with fail
 first|go_end0|refine bodyPost_ret (results_none rfl _ _ _) rfl ?_
 exact ⟨rfl,rfl⟩
theorem sK (er:Int) (h:er≠0) (w:World):Calls Tryz.prog 30 #[Z I er] w (fun e w'=>e=thrown er∧w'=w):=by
 have b1:(er != 0)=true:=by simp [h]
 clear h;go_enter Tryz.func30,Tryz.ntmps30
 go_wp2_with fail
 exact ⟨rfl,rfl,rfl⟩
theorem xB {c k:Int} {u:Unit} (hx:bI (sM c) u k) (w:World):Calls Tryz.prog 30 #[Z I c] w (Try w (aD #[]) k):=by
 obtain rfl:c=k:=hx.1
 by_cases h:c=0
 ·subst h;exact (wG w).mono fun _ _ ⟨e,h⟩=>by subst h;exact ⟨Below.refl _ _,.inl ⟨rfl,e⟩⟩
 ·exact (sK c h w).mono fun _ _ ⟨e,h2⟩=>by subst h2;exact ⟨Below.refl _ _,.inr ⟨h,e⟩⟩
theorem jD {s t:ByteArray} {k:Int} (w:World):Calls Tryz.prog 41 #[au #[O s,O t],Z I k] w (Try w (au #[O s,O t]) k):=by
 by_cases h:k=0
 ·subst h;go_enter Tryz.func41,Tryz.ntmps41
  go_wp2_with fail
  refine (wG _).mono ?_;rintro e w1 ⟨rfl,rfl⟩;go_wp2_with fail
  refine iT rfl rfl bf Tryz.underlying29 rfl zk ?_;exact ⟨aN,.inl ⟨rfl,rfl⟩⟩
 ·have H:=zh h;clear h;go_enter Tryz.func41,Tryz.ntmps41
  go_wp2_with fail
  refine (sK k H.out _).mono ?_;rintro e w1 ⟨rfl,rfl⟩;exact ⟨rfl,aN,.inr ⟨H.out,rfl⟩⟩
theorem fM {x y:Int} {k:Int} (w:World):Calls Tryz.prog 66 #[au #[Z I x,Z I y],Z I k] w (Try w (au #[Z I x,Z I y]) k):=by
 by_cases h:k=0
 ·subst h;go_enter Tryz.func66,Tryz.ntmps66
  go_wp2_with fail
  refine (wG _).mono ?_;rintro e w1 ⟨rfl,rfl⟩;go_wp2_with fail
  refine iT rfl rfl bf Tryz.underlying35 rfl zk ?_;exact ⟨aN,.inl ⟨rfl,rfl⟩⟩
 ·have H:=zh h;clear h;go_enter Tryz.func66,Tryz.ntmps66
  go_wp2_with fail
  refine (sK k H.out _).mono ?_;rintro e w1 ⟨rfl,rfl⟩;exact ⟨rfl,aN,.inr ⟨H.out,rfl⟩⟩
theorem wJ {v k:Int} (w:World):Calls Tryz.prog 39 #[Z I v,Z I k] w (Try w (Z I v) k):=by
 by_cases h:k=0
 ·subst h;go_enter Tryz.func39,Tryz.ntmps39
  go_wp2_with fail
  refine (wG _).mono ?_;rintro e w1 ⟨rfl,rfl⟩;go_wp2_with fail
  go_ret
  exact ⟨Below.refl _ _,.inl ⟨rfl,rfl⟩⟩
 ·have H:=zh h;clear h;go_enter Tryz.func39,Tryz.ntmps39
  go_wp2_with fail
  refine (sK k H.out _).mono ?_;rintro e w1 ⟨rfl,rfl⟩;exact ⟨rfl,Below.refl _ _,.inr ⟨H.out,rfl⟩⟩
theorem iO {a b c d x y k:Int} (hx:bI (aQ.gU (a,b) (c,d)) (x,y) k) (w:World):Calls Tryz.prog 72 #[au #[Z I a,Z I b],au #[Z I c,Z I d]] w (Try w (au #[Z I x,Z I y]) k):=by
 refine Fx.door Tryz.func72 rfl (.nil w []) ?_;have HR:=hx;refine Fx.new [] 2 #[Z I a,Z I b] 35 [] [] fun gV=>?_;refine Fx.new [] 3 #[Z I c,Z I d] 35 [] [] fun iD=>?_;refine Fx.bq [] 4 35 [] [] fun iL=>?_;obtain ⟨⟨x4,y4⟩,k4,EX,HN⟩:=iI HR;refine Fx.call [3,4] 7 [] [] (fun W M=>YH EX _) ?_;refine Fx.aM bR [] 10 [] [] (fun W M=>fM (x:=x4) (y:=y4) _) HN fun _ HR=>?_;obtain ⟨hk,hv⟩:=HR;cases hk
 exact Fx.iC (cs:=#[Z I x4,Z I y4]) 2 iL [5] [(2,#[Z I x4,Z I y4])] (fun W M=>⟨M.below,.inl ⟨rfl,by cases hv rfl;rfl⟩⟩)
theorem kR {a b c d x y k:Int} (hx:bI (aQ.pU (a,b) (c,d)) (x,y) k) (w:World):Calls Tryz.prog 71 #[au #[Z I a,Z I b],au #[Z I c,Z I d]] w (Try w (au #[Z I x,Z I y]) k):=by
 refine Fx.door Tryz.func71 rfl (.nil w []) ?_;have HR:=hx;refine Fx.new [] 2 #[Z I a,Z I b] 35 [] [] fun gV=>?_;refine Fx.new [] 3 #[Z I c,Z I d] 35 [] [] fun iD=>?_;refine Fx.bq [] 4 35 [] [] fun iL=>?_;obtain ⟨⟨x4,y4⟩,k4,EX,HN⟩:=iI HR;refine Fx.call [3,4] 7 [] [] (fun W M=>YF EX _) ?_;refine Fx.aM bR [] 10 [] [] (fun W M=>fM (x:=x4) (y:=y4) _) HN fun _ HR=>?_;obtain ⟨hk,hv⟩:=HR;cases hk
 exact Fx.iC (cs:=#[Z I x4,Z I y4]) 2 iL [5] [(2,#[Z I x4,Z I y4])] (fun W M=>⟨M.below,.inl ⟨rfl,by cases hv rfl;rfl⟩⟩)
theorem kJ {a b c d x y k:Int} (hx:bI (aQ.jo (a,b) (c,d)) (x,y) k) (w:World):Calls Tryz.prog 76 #[au #[Z I a,Z I b],au #[Z I c,Z I d]] w (Try w (au #[Z I x,Z I y]) k):=by
 refine Fx.door Tryz.func76 rfl (.nil w []) ?_;have HR:=hx;refine Fx.new [] 2 #[Z I a,Z I b] 35 [] [] fun gV=>?_;refine Fx.new [] 3 #[Z I c,Z I d] 35 [] [] fun iD=>?_;refine Fx.bq [] 4 35 [] [] fun iL=>?_;obtain ⟨⟨x4,y4⟩,k4,EX,HN⟩:=iI HR;refine Fx.call [3,4] 7 [] [] (fun W M=>YG EX _) ?_;refine Fx.aM bR [] 10 [] [] (fun W M=>fM (x:=x4) (y:=y4) _) HN fun _ HR=>?_;obtain ⟨hk,hv⟩:=HR;cases hk
 exact Fx.iC (cs:=#[Z I x4,Z I y4]) 2 iL [5] [(2,#[Z I x4,Z I y4])] (fun W M=>⟨M.below,.inl ⟨rfl,by cases hv rfl;rfl⟩⟩)
theorem ni {a b c d x y k:Int} (hx:bI (aQ.vg (a,b) (c,d)) (x,y) k) (w:World):Calls Tryz.prog 75 #[au #[Z I a,Z I b],au #[Z I c,Z I d]] w (Try w (au #[Z I x,Z I y]) k):=by
 refine Fx.door Tryz.func75 rfl (.nil w []) ?_;have HR:=hx;refine Fx.new [] 2 #[Z I a,Z I b] 35 [] [] fun gV=>?_;refine Fx.new [] 3 #[Z I c,Z I d] 35 [] [] fun iD=>?_;refine Fx.bq [] 4 35 [] [] fun iL=>?_;obtain ⟨⟨x4,y4⟩,k4,EX,HN⟩:=iI HR;refine Fx.call [3,4] 7 [] [] (fun W M=>Sw EX _) ?_;refine Fx.aM bR [] 10 [] [] (fun W M=>fM (x:=x4) (y:=y4) _) HN fun _ HR=>?_;obtain ⟨hk,hv⟩:=HR;cases hk
 exact Fx.iC (cs:=#[Z I x4,Z I y4]) 2 iL [5] [(2,#[Z I x4,Z I y4])] (fun W M=>⟨M.below,.inl ⟨rfl,by cases hv rfl;rfl⟩⟩)
theorem je {a b x y k:Int} (hx:bI (aQ.qY (a,b)) (x,y) k) (w:World):Calls Tryz.prog 73 #[au #[Z I a,Z I b]] w (Try w (au #[Z I x,Z I y]) k):=by
 refine Fx.door Tryz.func73 rfl (.nil w []) ?_;have HR:=hx;refine Fx.new [] 1 #[Z I a,Z I b] 35 [] [] fun gV=>?_;refine Fx.bq [] 2 35 [] [] fun iD=>?_;obtain ⟨⟨x3,y3⟩,k3,EX,HN⟩:=iI HR;refine Fx.call [3] 4 [] [] (fun W M=>YC EX _) ?_;refine Fx.aM bR [] 7 [] [] (fun W M=>fM (x:=x3) (y:=y3) _) HN fun _ HR=>?_;obtain ⟨hk,hv⟩:=HR;cases hk
 exact Fx.iC (cs:=#[Z I x3,Z I y3]) 1 iD [4] [(1,#[Z I x3,Z I y3])] (fun W M=>⟨M.below,.inl ⟨rfl,by cases hv rfl;rfl⟩⟩)
theorem o7 {a b n d x y k:Int} (hx:bI (aQ.xH (a,b) n d) (x,y) k) (w:World):Calls Tryz.prog 115 #[au #[Z I a,Z I b],Z I n,Z I d] w (Try w (au #[Z I x,Z I y]) k):=by
 refine Fx.door Tryz.func115 rfl (.nil w []) ?_;have HR:=hx;refine Fx.new [] 3 #[Z I a,Z I b] 35 [] [] fun gV=>?_;refine Fx.bq [] 6 35 [] [] fun iD=>?_;obtain ⟨⟨x3,y3⟩,k3,EX,HN⟩:=iI HR;refine Fx.call [3] 10 [] [] (fun W M=>QX EX _) ?_;refine Fx.aM bR [] 13 [] [] (fun W M=>fM (x:=x3) (y:=y3) _) HN fun _ HR=>?_;obtain ⟨hk,hv⟩:=HR;cases hk
 exact Fx.iC (cs:=#[Z I x3,Z I y3]) 1 iD [4] [(1,#[Z I x3,Z I y3])] (fun W M=>⟨M.below,.inl ⟨rfl,by cases hv rfl;rfl⟩⟩)
theorem uo {a b n d x y k:Int} (hx:bI (aQ.zO (a,b) n d) (x,y) k) (w:World):Calls Tryz.prog 116 #[au #[Z I a,Z I b],Z I n,Z I d] w (Try w (au #[Z I x,Z I y]) k):=by
 refine Fx.door Tryz.func116 rfl (.nil w []) ?_;have HR:=hx;refine Fx.new [] 3 #[Z I a,Z I b] 35 [] [] fun gV=>?_;refine Fx.bq [] 6 35 [] [] fun iD=>?_;obtain ⟨⟨x3,y3⟩,k3,EX,HN⟩:=iI HR;refine Fx.call [3] 10 [] [] (fun W M=>I9 EX _) ?_;refine Fx.aM bR [] 13 [] [] (fun W M=>fM (x:=x3) (y:=y3) _) HN fun _ HR=>?_;obtain ⟨hk,hv⟩:=HR;cases hk
 exact Fx.iC (cs:=#[Z I x3,Z I y3]) 1 iD [4] [(1,#[Z I x3,Z I y3])] (fun W M=>⟨M.below,.inl ⟨rfl,by cases hv rfl;rfl⟩⟩)
theorem gT {s t:ByteArray} {x y k:Int} (hx:bI (aQ.jE ⟨s,t⟩) (x,y) k) (w:World) (ht:gJ.Pow w) (he:whole.Er w):Calls Tryz.prog 77 #[au #[O s,O t]] w (Try w (au #[Z I x,Z I y]) k):=by
 refine Fx.door Tryz.func77 rfl (.nil w []) ?_;have HR:=hx;refine Fx.new [] 1 #[O s,O t] 29 [] [] fun gV=>?_;refine Fx.bq [] 2 35 [] [] fun iD=>?_;obtain ⟨⟨x3,y3⟩,k3,EX,HN⟩:=iI HR;refine Fx.call [3] 4 [] [] (fun W M=>QY EX _ (ht.later M.below) (he.later M.below)) ?_;refine Fx.aM bR [] 7 [] [] (fun W M=>fM (x:=x3) (y:=y3) _) HN fun _ HR=>?_;obtain ⟨hk,hv⟩:=HR;cases hk
 exact Fx.iC (cs:=#[Z I x3,Z I y3]) 1 iD [4] [(1,#[Z I x3,Z I y3])] (fun W M=>⟨M.below,.inl ⟨rfl,by cases hv rfl;rfl⟩⟩)
theorem Pv {P:Program} {f:FuncId} {args:Array Value} {w:World} {v:Value} {T:Int→Ending} (C:Calls P f args w (yR T w v 0)):Calls P f args w (fun e w'=>e= ah v∧Below w.heap.size w w'):=C.mono fun _ _ ⟨hb,hh⟩=>by
 rcases hh with ⟨-, rfl⟩|⟨hk, -⟩
 ·exact ⟨rfl,hb⟩
 ·exact absurd rfl hk
def TD (s:ByteArray):(Int × Int) × Int:=aP (0,0) (dD.JL s) fun f=>aP (0,0) (aQ.jE f) lC
def Lit (s:ByteArray) (n:Int):Prop:=dD.Yy s=true∧TD s=((n,n),0)
instance (s:ByteArray) (n:Int):Decidable (Lit s n):=by unfold Lit;exact inferInstance
theorem ML {s:ByteArray} {x y k:Int} (hx:bI (TD s) (x,y) k) (hd:dD.Yy s=true) (w:World) (ht:gJ.Pow w) (he:whole.Er w):Calls Tryz.prog 111 #[O s] w (Try w (au #[Z I x,Z I y]) k):=by
 unfold TD at hx;refine Fx.door Tryz.func111 rfl (.nil w []) ?_;have HR:=hx;refine Fx.bq [] 2 35 [] [] fun gV=>?_;obtain ⟨⟨s2,t2⟩,k2,EX,HN⟩:=ak HR;refine Fx.call [] 4 [] [] (fun W M=>Gx (s:=s) EX _ (ht.later M.below) hd) ?_;refine Fx.aM bR [] 7 [] [] (fun W M=>jD (s:=s2) (t:=t2) _) HN fun _ HR=>?_;obtain ⟨⟨x4,y4⟩,_,EX,HN⟩:=ak HR;refine Fx.aM bR [] 8 [] [] (fun W M=>gT (bI.of EX) _ (ht.later M.below) (he.later M.below)) HN fun _ HR=>?_;obtain ⟨hk,hv⟩:=HR;cases hk
 exact Fx.iC (cs:=#[Z I x4,Z I y4]) 0 gV [3] [(0,#[Z I x4,Z I y4])] (fun W M=>⟨M.below,.inl ⟨rfl,by cases hv rfl;rfl⟩⟩)
theorem dX {s:ByteArray} {n:Int} (w:World) (ht:gJ.Pow w) (he:whole.Er w) (hl:Lit s n:=by decide+kernel):Calls Tryz.prog 111 #[.string s] w (fun e w'=>e= .returned (.agg #[.int .i64 n,.int .i64 n])∧Below w.heap.size w w') :=
 Pv (ML (bI.of hl.2) hl.1 w ht he)
theorem fH {s:ByteArray} {n a b x y k:Int} (hx:bI (aQ.jo (n,n) (a,b)) (x,y) k) (w:World) (ht:gJ.Pow w) (he:whole.Er w) (hl:Lit s n:=by decide+kernel):Calls Tryz.prog 112 #[.string s,.agg #[.int .i64 a,.int .i64 b]] w (Try w (.agg #[.int .i64 x,.int .i64 y]) k):=by
 refine Fx.door Tryz.func112 rfl (.nil w []) ?_;have HR:=hx;refine Fx.new [] 3 #[.int .i64 a,.int .i64 b] 35 [] [] fun gV=>?_;refine Fx.bq [] 4 35 [] [] fun iD=>?_;refine Fx.draw [] [0,2,1,3,4] [] [] [] ?_;refine Fx.call [3] 6 [(7,.agg #[.int .i64 a,.int .i64 b])] [] (fun W M=>dX W (ht.later M.below) (he.later M.below) hl) ?_;obtain ⟨⟨x3,y3⟩,_,EX,HN⟩:=iI HR;refine Fx.aM bR [] 8 [] [] (fun W M=>kJ (bI.of EX) _) HN fun _ HR=>?_;obtain ⟨hk,hv⟩:=HR;cases hk
 exact Fx.iC (cs:=#[.int .i64 x3,.int .i64 y3]) 1 iD [4] [(1,#[.int .i64 x3,.int .i64 y3])] (fun W M=>⟨M.below,.inl ⟨rfl,by cases hv rfl;rfl⟩⟩)
def Tj (a b c:Int × Int):(Int × Int) × Int:=aP (0,0) (aQ.gU a b) fun s=>aP (0,0) (aQ.gU s c) lC
theorem LP {a b c d e f x y k:Int} {q:Nat} (hx:bI (Tj (a,b) (c,d) (e,f)) (x,y) k) (w:World) (hq:aC w q #[Z I c,Z I d,Z I e,Z I f] 35):Calls Tryz.prog 79 #[au #[Z I a,Z I b],aj (some ⟨q,0,none⟩) 2 2] w (Try w (au #[Z I x,Z I y]) k):=by
 unfold Tj at hx;refine Fx.door Tryz.func79 rfl (.ro hq (.nil w [])) ?_;have HR:=hx;refine Fx.new [] 2 #[Z I a,Z I b] 35 [] [] fun gV=>?_;refine Fx.bq [] 4 35 [] [] fun iD=>?_;refine Fx.bq [1,3] 6 35 [(7,aj (some ⟨q,0,none⟩) 2 2),(8,Z I 2),(9,Z I 0),(12,au #[Z I c,Z I d])] [] fun iL=>?_;obtain ⟨⟨x4,y4⟩,_,EX,HN⟩:=ak HR;refine Fx.aM bR [6,4,6] 15 [] [(3,#[Z I c,Z I d])] (fun W M=>iO (bI.of EX) _) HN fun _ HR=>?_;refine Fx.bq [4,1,3] 6 35 [(9,Z I 1),(12,au #[Z I e,Z I f])] [(1,#[Z I x4,Z I y4])] fun rz=>?_;obtain ⟨⟨x6,y6⟩,_,EX,HN⟩:=ak HR;refine Fx.aM bR [7,4,7] 15 [] [(4,#[Z I e,Z I f])] (fun W M=>iO (bI.of EX) _) HN fun _ HR=>?_;obtain ⟨hk,hv⟩:=HR;cases hk
 exact Fx.iC (cs:=#[Z I x6,Z I y6]) 2 iD [4,2,4,5] [(1,#[Z I x6,Z I y6]),(2,#[Z I x6,Z I y6])] (fun W M=>⟨M.below,.inl ⟨rfl,by cases hv rfl;rfl⟩⟩)
end Go.Proofs.differ
