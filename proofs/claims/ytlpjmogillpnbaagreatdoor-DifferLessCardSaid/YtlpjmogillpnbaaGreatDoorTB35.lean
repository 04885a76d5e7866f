/- Lemmas for the proof. No condition. -/
import Derived.Test.YtlpjmogillpnbaaGreatDoorTB34
import Derived.Defers
import Derived.Recover
import Derived.Tactics2
set_option linter.unusedVariables false
set_option linter.unusedSimpArgs false
set_option maxRecDepth 100000
set_option maxHeartbeats 16000000
open Go.Ending renaming returned → ah
open Go.IntKind renaming i64 → I
open Go.Value renaming agg → au, bool → ay, int → Z, pointer → aA, string → O, tuple → aD
open List renaming cons_append → cZ, length_cons → aZ, range → bO, set_cons_succ → aH, set_cons_zero → aG
open Nat renaming le_refl → aI
namespace Go.Proofs.lab
open Go Go.RowKit Go.SW Go.Num Go.Mem Go.Proofs Go.Dec Go.gW Go.Fx
def thrown (er:Int):Ending:=.panicked [{ v:=.iface 36 (Z I er),recovered:=false }]
abbrev Try:=yR thrown
theorem bR (k:Int):∃ c,thrown k= .panicked c:=⟨_,rfl⟩
theorem tK {x y:Int} {k:Int} (w:World):Calls Tryz.prog 216 #[au #[Z I x,Z I y],Z I k] w (Try w (au #[Z I x,Z I y]) k):=by
 by_cases h:k=0
 ·subst h;go_enter Tryz.func216,Tryz.ntmps216
  go_wp2_with fail
  refine iT rfl rfl bf Tryz.underlying35 rfl zk ?_;exact ⟨aN,.inl ⟨rfl,rfl⟩⟩
 ·have b1:(k != 0)=true:=by simp [h]
  have H:=zh h;clear h;go_enter Tryz.func216,Tryz.ntmps216
  go_wp2_with fail
  exact ⟨rfl,aN,.inr ⟨H.out,rfl⟩⟩
theorem Ip {n x y k:Int} (hx:bI (aQ.RU (n*1000000000000)) (x,y) k) (w:World) (h1: -1000≤n:=by omega) (h2:n≤1000:=by omega) :
  Calls Tryz.prog 215 #[.int .i64 n] w (Try w (.agg #[.int .i64 x,.int .i64 y]) k):=by
 have hw:IntKind.i64.wrap (n*1000000000000)=n*1000000000000:=by rw [IntKind.wrap_i64];omega
 refine Fx.door Tryz.func215 rfl (.nil w []) ?_;have HR:=hx;refine Fx.bq [] 2 35 [] [] fun gV=>?_;refine Fx.part 6 [] [(4,.int .i64 (IntKind.i64.wrap (n*1000000000000)))] [] ?_;refine Fx.uO (.int .i64 (n*1000000000000)) (Fx.wrap_i64 zo zo) ?_;obtain ⟨⟨x2,y2⟩,k2,EX,HN⟩:=iI HR;refine Fx.call [] 5 [] [] (fun W M=>UG EX _) ?_;refine Fx.aM bR [] 8 [] [] (fun W M=>tK (x:=x2) (y:=y2) _) HN fun _ HR=>?_;obtain ⟨hk,hv⟩:=HR;cases hk
 exact Fx.iC (cs:=#[.int .i64 x2,.int .i64 y2]) 0 gV [3] [(0,#[.int .i64 x2,.int .i64 y2])] (fun W M=>⟨M.below,.inl ⟨rfl,by cases hv rfl;rfl⟩⟩)
def z3:(Int × Int) × (Int × Int) × (Int × Int):=((0,0),(0,0),(0,0))
def Ir (b c:Int × Int):(Int × Int) × Int:=aP (0,0) (aQ.vg b c) fun q=>aP (0,0) (aQ.zO q (-1000000000000) 1000000000000) lC
theorem Ba {u v c d x y k:Int} {p:Nat} (hx:bI (Ir (u,v) (c,d)) (x,y) k) (w:World) (hp:aC w p #[Z I c,Z I d] 35) :
  Calls Tryz.prog 217 #[au #[Z I u,Z I v],aA (some ⟨p,0,none⟩)] w (Try w (au #[Z I x,Z I y]) k):=by
 unfold Ir at hx;refine Fx.door Tryz.func217 rfl (.ro hp (.nil w [])) ?_;have HR:=hx;refine Fx.new [] 2 #[Z I u,Z I v] 35 [] [] fun gV=>?_;refine Fx.bq [] 3 35 [] [] fun iD=>?_;obtain ⟨⟨x3,y3⟩,k3,EX,HN⟩:=ak HR;refine Fx.call [4,3] 6 [] [] (fun W M=>Sw EX _) ?_;refine Fx.aM bR [] 9 [] [] (fun W M=>tK (x:=x3) (y:=y3) _) HN fun _ HR=>?_;obtain ⟨⟨x5,y5⟩,k5,EX,HN⟩:=ak HR;refine Fx.call [] 10 [] [] (fun W M=>I9 EX _) ?_;refine Fx.aM bR [] 13 [] [] (fun W M=>tK (x:=x5) (y:=y5) _) HN fun _ HR=>?_;obtain ⟨hk,hv⟩:=HR;cases hk
 exact Fx.iC (cs:=#[Z I x5,Z I y5]) 2 iD [5] [(2,#[Z I x5,Z I y5])] (fun W M=>⟨M.below,.inl ⟨rfl,by cases hv rfl;rfl⟩⟩)
theorem Qy {P:Program} {f:FuncId} {args:Array Value} {w:World} {v z:Value} {k:Int} (C:Calls P f args w (G8 w v z k)) (h:k=0):Calls P f args w (fun e w'=>e= ah (aD #[v,Z I 0])∧Below w.heap.size w w'):=C.mono fun _ _ ⟨hb,hh⟩=>by
 rcases hh with ⟨-, rfl⟩|⟨hk, -⟩
 ·exact ⟨rfl,hb⟩
 ·exact absurd h hk
theorem Ul {P:Program} {f:FuncId} {args:Array Value} {w:World} {v z:Value} {k:Int} (C:Calls P f args w (G8 w v z k)) (h:k≠0):Calls P f args w (fun e w'=>e= ah (aD #[z,Z I k])∧Below w.heap.size w w'):=C.mono fun _ _ ⟨hb,hh⟩=>by
 rcases hh with ⟨hk, -⟩|⟨-, rfl⟩
 ·exact absurd hk h
 ·exact ⟨rfl,hb⟩
def pK (b:Int × Int):Int:=if aQ.jc b.1 b.2 then 0 else 30
def vQ (l:(Int × Int) × (Int × Int) × (Int × Int)):Int:=if pK l.1≠0 then pK l.1 else if pK l.2.1≠0 then pK l.2.1 else pK l.2.2
theorem OA (s1 s2 s3 s4 s5 s6:Int) (w:World):Calls Tryz.prog 212 #[au #[Z I s1,Z I s2,Z I s3,Z I s4,Z I s5,Z I s6]] w (fun e w'=>e= ah (Z I (vQ ((s1,s2),(s3,s4),(s5,s6))))∧Below w.heap.size w w'):=by
 have K0:∀ W,Calls Tryz.prog 104 #[au #[Z I s1,Z I s2]] W (fun e w'=>e= ah (Z I (pK (s1,s2)))∧Below W.heap.size W w'):=fun W=>by unfold pK;exact aQ.oM s1 s2 W
 have K1:∀ W,Calls Tryz.prog 104 #[au #[Z I s3,Z I s4]] W (fun e w'=>e= ah (Z I (pK (s3,s4)))∧Below W.heap.size W w'):=fun W=>by unfold pK;exact aQ.oM s3 s4 W
 have K2:∀ W,Calls Tryz.prog 104 #[au #[Z I s5,Z I s6]] W (fun e w'=>e= ah (Z I (pK (s5,s6)))∧Below W.heap.size W w'):=fun W=>by unfold pK;exact aQ.oM s5 s6 W
 have e:vQ ((s1,s2),(s3,s4),(s5,s6))=if pK (s1,s2)≠0 then pK (s1,s2) else if pK (s3,s4)≠0 then pK (s3,s4) else pK (s5,s6):=rfl
 rw [e];generalize pK (s1,s2)=k0 at *;generalize pK (s3,s4)=k1 at *;generalize pK (s5,s6)=k2 at *;clear e;refine Fx.door Tryz.func212 rfl (.nil w []) ?_;refine Fx.new [] 1 #[Z I s1,Z I s2,Z I s3,Z I s4,Z I s5,Z I s6] 211 [] [] fun gV=>?_;refine Fx.bq [3,1] 4 35 [(6,au #[Z I s1,Z I s2,Z I s3,Z I s4,Z I s5,Z I s6]),(7,Z I 0),(9,au #[Z I s1,Z I s2])] [] fun iD=>?_;refine Fx.fC [4,4] 11 [] [(1,#[Z I s1,Z I s2])] K0 ?_;refine Fx.part 7 [] [(13,ay (!(k0 == 0))),(5,Z I k0)] [] ?_;refine Fx.splitB (fun H1=>?_) (fun H1=>?_)
 ·skip
  exact Fx.jU (v:=Z I k0) [1] [] (fun W M=>by have HB:=M.below;exact ⟨by simp_all,HB⟩)
 ·skip
  refine Fx.bq [2,1] 4 35 [(7,Z I 1),(9,au #[Z I s3,Z I s4])] [] fun iL=>?_;refine Fx.fC [5,5] 11 [] [(2,#[Z I s3,Z I s4])] K1 ?_;refine Fx.part 7 [] [(13,ay (!(k1 == 0))),(5,Z I k1)] [] ?_;refine Fx.splitB (fun H2=>?_) (fun H2=>?_)
  ·skip
   exact Fx.jU (v:=Z I k1) [1] [] (fun W M=>by have HB:=M.below;exact ⟨by simp_all,HB⟩)
  ·skip
   refine Fx.bq [2,1] 4 35 [(7,Z I 2),(9,au #[Z I s5,Z I s6])] [] fun vo=>?_;refine Fx.fC [6,6] 11 [] [(3,#[Z I s5,Z I s6])] K2 ?_;refine Fx.part 7 [] [(13,ay (!(k2 == 0))),(5,Z I k2)] [] ?_;refine Fx.splitB (fun H3=>?_) (fun H3=>?_)
   ·skip
    exact Fx.jU (v:=Z I k2) [1] [] (fun W M=>by have HB:=M.below;exact ⟨by simp_all,HB⟩)
   ·skip
    exact Fx.jU (v:=Z I 0) [2,2] [] (fun W M=>by have HB:=M.below;exact ⟨by simp_all,HB⟩)
theorem qR (er:Int) (w:World):(Instr.typeAssert (.iface 36 (Z I er)) 20 36 true).run Tryz.prog w= .ok (aD #[Z I er,ay true]) w:=by kernel_rfl
theorem iY {w:World} {b:Nat} {cs cs':Array Value} {T:TypeId} (h:aC w b cs T) (e:cs=cs'):aC w b cs' T:=e ▸ h
def caught (er:Int) (rec:Bool):FrameMode:=.panicking [{ v:=.iface 36 (Z I er),recovered:=rec }]
theorem DZ (p q:Addr) (w:World) :
  CallsD Tryz.prog 265 #[aA (some p),aA (some q)] .returning w fun e u' w'=>e= ah (aD #[])∧u'= .returning∧w'=w:=by
 refine callsD_of_wpS Tryz.func265 rfl fun c₀ cs hu=>?_;simp only [Tryz.ntmps265,List.size_toArray,aZ,List.length_nil,Nat.reduceAdd,Nat.reduceSub,Array.replicate_succ,Array.replicate_zero,List.push_toArray,List.append_toArray,List.nil_append,cZ];refine wpS_seq (wpS_region ?_);generalize hQ:Exit.thenS _ _=Q;simp [wpOpsS,go_sem,recoverD,hu]
 rw [← hQ];clear hQ;refine wpS_of_wp ?_;go_wp2_with fail
 cases c₀
 simp_all [bodyPostS,results,Tryz.results265]
theorem UA (b c:Nat) (s1 s2 s3 s4 s5 s6:Int) (z er:Int) (w:World) (hb:aC w b #[Z I s1,Z I s2,Z I s3,Z I s4,Z I s5,Z I s6] 258) (hc:aC w c #[Z I z] 36) :
  CallsD Tryz.prog 265 #[aA (some ⟨b,0,none⟩),aA (some ⟨c,0,none⟩)] (caught er false) w fun e u' w' =>
   e= ah (aD #[])∧u'=caught er true∧aC w' b #[Z I 0,Z I 0,Z I 0,Z I 0,Z I 0,Z I 0] 258∧aC w' c #[Z I er] 36∧∀ w0:World,w0.heap.size≤b→w0.heap.size≤c→Below w0.heap.size w0 w→Below w0.heap.size w0 w':=by
 unfold caught;refine callsD_of_wpS Tryz.func265 rfl fun c₀ cs hu=>?_;simp only [Tryz.ntmps265,List.size_toArray,aZ,List.length_nil,Nat.reduceAdd,Nat.reduceSub,Array.replicate_succ,Array.replicate_zero,List.push_toArray,List.append_toArray,List.nil_append,cZ];refine wpS_seq (wpS_region ?_);generalize hQ:Exit.thenS _ _=Q;simp [wpOpsS,go_sem,recoverD,hu]
 rw [← hQ];clear hQ;refine wpS_of_wp ?_;have cb:=hb.cell;have fb:=hb.free;have cc:=hc.cell;have fc:=hc.free;have lb:=hb.lt;have lc:=hc.lt;have hne:b≠c:=hb.ne hc zd;have hne2:c≠b:=fun e=>hne e.symm;have hta:=qR er;obtain ⟨R,HR⟩:∃ R:Ending→FrameMode→World→Prop,Hid (R=fun e u' w'=>e= ah (aD #[])∧u'= .panicking [{ v:=.iface 36 (Z I er),recovered:=true }]∧aC w' b #[Z I 0,Z I 0,Z I 0,Z I 0,Z I 0,Z I 0] 258∧aC w' c #[Z I er] 36∧∀ w0:World,w0.heap.size≤b→w0.heap.size≤c→Below w0.heap.size w0 w→Below w0.heap.size w0 w'):=⟨_,zh rfl⟩
 rw [← HR.out];go_wp2_with fail
 simp only [bodyPostS];refine ⟨trivial,_,rfl,_,results_none rfl _ _ _,?_⟩;rw [HR.out];refine ⟨rfl,rfl,?_,?_,fun w0 h1 h2 h3=>?_⟩
 ·apply iY
  ·exact bf
  ·simp only [List.setIfInBounds_toArray,aG,aH]
 ·apply iY
  ·exact bf
  ·simp only [List.setIfInBounds_toArray,aG,aH]
 ·exact aN
theorem fJ {P:Program} {fn:Func} {w:World} {tmps:Array Value} {p q:Tmp} {ty pR:TypeId} {g g2:Nat} {x y:Value} (h:fn.results=#[.cell p ty,.cell q pR])
  (hp:tmps.getD p undef= aA (some ⟨g,0,none⟩)) (hq:tmps.getD q undef= aA (some ⟨g2,0,none⟩)) (h1:(loadVar ty ⟨g,0,none⟩).run P w= .ok x w) (h2:(loadVar pR ⟨g2,0,none⟩).run P w= .ok y w) :
  (results fn tmps).run P w= .ok (aD #[x,y]) w:=by
 have hp':tmps[p]?.getD undef= aA (some ⟨g,0,none⟩):=by simpa using hp
 have hq':tmps[q]?.getD undef= aA (some ⟨g2,0,none⟩):=by simpa using hq
 simp [results,h,hp',hq',asAddr,h1,h2]
theorem jX {w:World} {c:Nat} {z:Int} (h:aC w c #[Z I z] 36):(loadVar 36 ⟨c,0,none⟩).run Tryz.prog w= .ok (Z I z) w:=by
 have hc:=h.cell 0;simp [go_sem,hc]
theorem Nc {w:World} {b:Nat} {s1 s2 s3 s4 s5 s6:Int} (h:aC w b #[Z I s1,Z I s2,Z I s3,Z I s4,Z I s5,Z I s6] 258):(loadVar 258 ⟨b,0,none⟩).run Tryz.prog w= .ok (au #[Z I s1,Z I s2,Z I s3,Z I s4,Z I s5,Z I s6]) w :=
 run_loadVar_row w b 258 258 _ (0,0) _ h Tryz.underlying258 rfl zk
theorem yB {f:FuncId} {caps:Array Value} {k:Int} {s1 s2 s3 s4 s5 s6:Int} (w:World) (HC:∀ W,Below w.heap.size w W→Calls Tryz.prog f caps W (Try W (au #[Z I s1,Z I s2,Z I s3,Z I s4,Z I s5,Z I s6]) k))
  (hf:∀ args W,(callFunc f args).run Tryz.prog W= .ok (.enter f args) W) :
  Calls Tryz.prog 213 #[.func (.func f) #[] caps] w (G8 w (au #[Z I s1,Z I s2,Z I s3,Z I s4,Z I s5,Z I s6]) (au #[Z I 0,Z I 0,Z I 0,Z I 0,Z I 0,Z I 0]) k):=by
 have ZG:∀ (fn:Fn) (first cap:Array Value) (w:World),(Instr.makeFunc fn first cap).run Tryz.prog w= .ok (.func fn first cap) w:=fun _ _ _ _=>rfl;have Zf:=zh HC;clear HC;have hb0:Below w.heap.size w ((w.alloc (.cells #[Z I 0,Z I 0,Z I 0,Z I 0,Z I 0,Z I 0] 258)).alloc (.cells #[Z I 0] 36)):=aN;obtain ⟨w0,Jg⟩:∃ y,(w.alloc (.cells #[Z I 0,Z I 0,Z I 0,Z I 0,Z I 0,Z I 0] 258)).alloc (.cells #[Z I 0] 36)=y:=⟨_,rfl⟩;have hx1:aC w0 w.heap.size #[Z I 0,Z I 0,Z I 0,Z I 0,Z I 0,Z I 0] 258:=by rw [← Jg];exact bf
 have hx2:aC w0 (w.heap.size+1) #[Z I 0] 36:=by rw [← Jg];exact bf
 rw [Jg] at hb0
 go_enter_defers Tryz.func213,Tryz.ntmps213
 go_wp2_with fail
 refine (Zf.out _ hb0).mono ?_;rintro e w1 ⟨hb1,⟨rfl,rfl⟩|⟨h,rfl⟩⟩
 ·replace hx1:=hx1.later hb1;replace hx2:=hx2.later hb1;have c1:=hx1.cell;have f1:=hx1.free;have c2:=hx2.cell;have f2:=hx2.free;have hne:w.heap.size≠w.heap.size+1:=by omega
  have hx3:aC (((((((w1.setCell ⟨w.heap.size,0,none⟩ (Z I s1)).setCell ⟨w.heap.size,1,none⟩ (Z I s2)).setCell ⟨w.heap.size,2,none⟩ (Z I s3)).setCell ⟨w.heap.size,3,none⟩ (Z I s4)).setCell ⟨w.heap.size,4,none⟩ (Z I s5)).setCell ⟨w.heap.size,5,none⟩ (Z I s6)).setCell ⟨w.heap.size+1,0,none⟩ (Z I 0)) w.heap.size #[Z I s1,Z I s2,Z I s3,Z I s4,Z I s5,Z I s6] 258:=by
   apply iY
   ·exact bf
   ·simp only [List.setIfInBounds_toArray,aG,aH]
  have hx4:aC (((((((w1.setCell ⟨w.heap.size,0,none⟩ (Z I s1)).setCell ⟨w.heap.size,1,none⟩ (Z I s2)).setCell ⟨w.heap.size,2,none⟩ (Z I s3)).setCell ⟨w.heap.size,3,none⟩ (Z I s4)).setCell ⟨w.heap.size,4,none⟩ (Z I s5)).setCell ⟨w.heap.size,5,none⟩ (Z I s6)).setCell ⟨w.heap.size+1,0,none⟩ (Z I 0)) (w.heap.size+1) #[Z I 0] 36:=by
   apply iY
   ·exact bf
   ·simp only [List.setIfInBounds_toArray,aG,aH]
  have hbw:Below w.heap.size w (((((((w1.setCell ⟨w.heap.size,0,none⟩ (Z I s1)).setCell ⟨w.heap.size,1,none⟩ (Z I s2)).setCell ⟨w.heap.size,2,none⟩ (Z I s3)).setCell ⟨w.heap.size,3,none⟩ (Z I s4)).setCell ⟨w.heap.size,4,none⟩ (Z I s5)).setCell ⟨w.heap.size,5,none⟩ (Z I s6)).setCell ⟨w.heap.size+1,0,none⟩ (Z I 0)):=by
   have:=Bt hb0 hb1;exact aN
  have Pg:=zh hx3;have YV:=zh hx4;have Zh:=zh hbw;clear hx3 hx4 hbw Jg hx1 hx2 hb0 hb1;go_wp2_with fail
  refine leaves_cons (f:=265) (args:=#[aA (some ⟨w.heap.size,0,none⟩),aA (some ⟨w.heap.size+1,0,none⟩)]) zi (by simp [go_sem]) ?_;refine (DZ _ _ _).mono ?_;rintro e u' w'' ⟨rfl,rfl,rfl⟩;exact ⟨_,fJ rfl rfl rfl (Nc Pg.out) (jX YV.out),Zh.out,.inl ⟨rfl,rfl⟩⟩
 ·replace hx1:=hx1.later hb1;replace hx2:=hx2.later hb1
  change bodyPostD _ _ _ (Exit.panic [{ v:=.iface 36 (Z I k),recovered:=false }]) _ _
  refine leaves_cons (f:=265) (args:=#[aA (some ⟨w.heap.size,0,none⟩),aA (some ⟨w.heap.size+1,0,none⟩)]) zi (by simp [go_sem]) ?_;refine (UA w.heap.size (w.heap.size+1) _ _ _ _ _ _ _ k _ hx1 hx2).mono ?_;rintro e u' w'' ⟨rfl,rfl,hy1,hy2,hbb⟩;exact ⟨_,fJ rfl rfl rfl (Nc hy1) (jX hy2),hbb w (aI _) zo (Bt hb0 hb1),.inr ⟨h,rfl⟩⟩
def Km (a b:Int × Int):Bool:=decide (a.1=b.1)&&decide (a.2=b.2)
theorem nH (a b c d:Int) (W:World):(Op.equalIn 10000 35 (au #[Z I a,Z I b]) (au #[Z I c,Z I d])).run Tryz.prog W= .ok (Km (a,b) (c,d)) W:=by
 unfold Km
 by_cases h1:a=c
 ·by_cases h2:b=d
  ·subst h1;subst h2;go_simp
  ·subst h1;go_simp
 ·go_simp
def Io (b1 b2:Int × Int):((Int × Int) × (Int × Int) × (Int × Int)) × Int :=
 aP z3 (aQ.RU (0*1000000000000)) fun zero=>cond (Km b1 zero&&Km b2 zero) (aP z3 (aQ.RU (1*1000000000000)) fun one=>lC (zero,one,zero))
  (aP z3 (power.zG [b1,b2]) fun c=>if c.1=0 then (z3,7) else aP z3 (Ir b1 c) fun p=>aP z3 (Ir b2 c) fun q=>lC (c,p,q))
theorem CU {l1 l2 l3 l4 l5 l6 x1 x2 x3 x4 x5 x6 k:Int} {p:Nat} (hx:bI (Io (l3,l4) (l5,l6)) ((x1,x2),(x3,x4),(x5,x6)) k) (w:World)
  (hp:aC w p #[Z I l1,Z I l2,Z I l3,Z I l4,Z I l5,Z I l6] 211) (ht:gJ.Pow w) (he:whole.Er w) :
  Calls Tryz.prog 214 #[aA (some ⟨p,0,none⟩)] w (Try w (au #[Z I x1,Z I x2,Z I x3,Z I x4,Z I x5,Z I x6]) k):=by
 unfold Io at hx;refine Fx.door Tryz.func214 rfl (.ro hp (.nil w [])) ?_;have HR:=hx;refine Fx.bq [] 1 258 [] [] fun gV=>?_;obtain ⟨⟨x2,y2⟩,_,EX,HN⟩:=ak HR;refine Fx.aM bR [] 5 [] [] (fun W M=>Ip (bI.of EX) _) HN fun _ HR=>?_;refine Fx.bq [] 2 35 [] [] fun iL=>?_;obtain ⟨f4,e4⟩:∃ f,Km (l3,l4) (x2,y2)=f:=⟨_,rfl⟩;have q4:=fun W=>nH l3 l4 x2 y2 W;rw [e4] at HR;simp only [e4] at q4;cases f4
 ·skip
  replace HR:=bI.cond_false HR;refine Fx.eql 9 [5,3,5] 9 true false 35 (au #[Z I l3,Z I l4]) (au #[Z I x2,Z I y2]) [] [(2,#[Z I x2,Z I y2])] q4 ?_;refine Fx.newS [0,0,2,3,3] 25 2 2 #[Z I l3,Z I l4,Z I l5,Z I l6] 35 [] [] fun rz=>?_;obtain ⟨⟨x6,y6⟩,k6,EX,HN⟩:=ak HR;refine Fx.call [] 26 [] [] (fun W M=>Bv EX _ (M.box (b:=rz) (cs:=#[Z I l3,Z I l4,Z I l5,Z I l6]) 3) (ht.later M.below) (he.later M.below)) ?_;refine Fx.aM bR [] 29 [] [] (fun W M=>tK (x:=x6) (y:=y6) _) HN fun _ HR=>?_;refine Fx.bq [] 3 35 [] [] fun Le=>?_;refine Fx.part 9 [7,7] [(32,ay (x6 == 0))] [(4,#[Z I x6,Z I y6])] ?_;refine Fx.splitB (fun hf1=>?_) (fun hf1=>?_)
  ·skip
   replace HR:=bI.pos HR (by simpa using hf1);refine Fx.panics (v:=.iface 36 (Z I 7)) 5 [1] [] (fun W M=>?_);have HB:=M.below;obtain ⟨hk, -⟩:=HR;cases hk;exact ⟨HB,.inr ⟨by decide,rfl⟩⟩
  ·skip
   replace HR:=bI.neg HR (by simpa using hf1);refine Fx.draw [2] [0,1,2,3,5,6,7,4,8,9,10,11] [] [(4,.func (.func 217) #[] #[aA (some ⟨Le,0,none⟩)])] [] ?_;obtain ⟨⟨x9,y9⟩,_,EX,HN⟩:=ak HR;refine Fx.aM bR [7,3,3] 39 [(35,au #[Z I x6,Z I y6]),(40,.func (.func 217) #[] #[aA (some ⟨Le,0,none⟩)]),(42,au #[Z I l5,Z I l6])] [] (fun W M=>Ba (bI.of EX) _ (M.box (b:=Le) (cs:=#[Z I x6,Z I y6]) 4)) HN fun _ HR=>?_;obtain ⟨⟨x10,Jh⟩,_,EX,HN⟩:=ak HR;refine Fx.aM bR [] 43 [] [] (fun W M=>Ba (bI.of EX) _ (M.box (b:=Le) (cs:=#[Z I x6,Z I y6]) 4)) HN fun _ HR=>?_;obtain ⟨hk,hv⟩:=HR;cases hk
   exact Fx.iC (cs:=#[Z I x6,Z I y6,Z I x9,Z I y9,Z I x10,Z I Jh]) 1 gV [4] [(1,#[Z I x6,Z I y6,Z I x9,Z I y9,Z I x10,Z I Jh])] (fun W M=>⟨M.below,.inl ⟨rfl,by cases hv rfl;rfl⟩⟩)
 ·skip
  refine Fx.eql 9 [5,3,5] 9 true true 35 (au #[Z I l3,Z I l4]) (au #[Z I x2,Z I y2]) [] [(2,#[Z I x2,Z I y2])] q4 ?_;obtain ⟨f11,e11⟩:∃ f,Km (l5,l6) (x2,y2)=f:=⟨_,rfl⟩;have q11:=fun W=>nH l5 l6 x2 y2 W;rw [e11] at HR;simp only [e11] at q11;cases f11
  ·skip
   replace HR:=bI.cond_false HR;refine Fx.eql 4 [3,5] 14 true false 35 (au #[Z I l5,Z I l6]) (au #[Z I x2,Z I y2]) [(10,ay true)] [] q11 ?_;refine Fx.newS [2,3,3] 25 2 2 #[Z I l3,Z I l4,Z I l5,Z I l6] 35 [] [] fun Kj=>?_;obtain ⟨⟨La,y13⟩,k13,EX,HN⟩:=ak HR;refine Fx.call [] 26 [] [] (fun W M=>Bv EX _ (M.box (b:=Kj) (cs:=#[Z I l3,Z I l4,Z I l5,Z I l6]) 3) (ht.later M.below) (he.later M.below)) ?_;refine Fx.aM bR [] 29 [] [] (fun W M=>tK (x:=La) (y:=y13) _) HN fun _ HR=>?_;refine Fx.bq [] 3 35 [] [] fun EF=>?_;refine Fx.part 9 [7,7] [(32,ay (La == 0))] [(4,#[Z I La,Z I y13])] ?_;refine Fx.splitB (fun hf1=>?_) (fun hf1=>?_)
   ·skip
    replace HR:=bI.pos HR (by simpa using hf1);refine Fx.panics (v:=.iface 36 (Z I 7)) 5 [1] [] (fun W M=>?_);have HB:=M.below;obtain ⟨hk, -⟩:=HR;cases hk;exact ⟨HB,.inr ⟨by decide,rfl⟩⟩
   ·skip
    replace HR:=bI.neg HR (by simpa using hf1);refine Fx.draw [2] [0,1,2,3,5,6,7,4,8,9,10,11] [] [(4,.func (.func 217) #[] #[aA (some ⟨EF,0,none⟩)])] [] ?_;obtain ⟨⟨VP,VJ⟩,_,EX,HN⟩:=ak HR;refine Fx.aM bR [7,3,3] 39 [(35,au #[Z I La,Z I y13]),(40,.func (.func 217) #[] #[aA (some ⟨EF,0,none⟩)]),(42,au #[Z I l5,Z I l6])] [] (fun W M=>Ba (bI.of EX) _ (M.box (b:=EF) (cs:=#[Z I La,Z I y13]) 4)) HN fun _ HR=>?_;obtain ⟨⟨Ch,Ce⟩,_,EX,HN⟩:=ak HR;refine Fx.aM bR [] 43 [] [] (fun W M=>Ba (bI.of EX) _ (M.box (b:=EF) (cs:=#[Z I La,Z I y13]) 4)) HN fun _ HR=>?_;obtain ⟨hk,hv⟩:=HR;cases hk
    exact Fx.iC (cs:=#[Z I La,Z I y13,Z I VP,Z I VJ,Z I Ch,Z I Ce]) 1 gV [4] [(1,#[Z I La,Z I y13,Z I VP,Z I VJ,Z I Ch,Z I Ce])] (fun W M=>⟨M.below,.inl ⟨rfl,by cases hv rfl;rfl⟩⟩)
  ·skip
   replace HR:=bI.cond_true HR;refine Fx.eql 4 [3,5] 14 true true 35 (au #[Z I l5,Z I l6]) (au #[Z I x2,Z I y2]) [(10,ay true)] [] q11 ?_;refine Fx.draw [1] [0,2,1,3,4,5] [] [] [] ?_;obtain ⟨⟨x18,He⟩,_,EX,HN⟩:=ak HR;refine Fx.aM bR [5,5] 17 [(16,au #[Z I x2,Z I y2]),(18,au #[Z I x2,Z I y2])] [] (fun W M=>Ip (bI.of EX) _) HN fun _ HR=>?_;obtain ⟨hk,hv⟩:=HR;cases hk
   exact Fx.iC (cs:=#[Z I x2,Z I y2,Z I x18,Z I He,Z I x2,Z I y2]) 1 gV [4] [(1,#[Z I x2,Z I y2,Z I x18,Z I He,Z I x2,Z I y2])] (fun W M=>⟨M.below,.inl ⟨rfl,by cases hv rfl;rfl⟩⟩)
def CV (l:(Int × Int) × (Int × Int) × (Int × Int)):((Int × Int) × (Int × Int) × (Int × Int)) × Int:=if vQ l≠0 then (z3,vQ l) else Io l.2.1 l.2.2
def ah3 (w:World) (x1 x2 x3 x4 x5 x6 k:Int) (e:Ending) (w':World):Prop:=Below w.heap.size w w'∧((k=0∧e= ah (aD #[au #[Z I x1,Z I x2],au #[Z I x3,Z I x4,Z I x5,Z I x6],Z I 0]))∨(k≠0∧e= ah (aD #[au #[Z I 0,Z I 0],au #[Z I 0,Z I 0,Z I 0,Z I 0],Z I k])))
theorem Jc {a1 a2 a3 a4 a5 a6 x1 x2 x3 x4 x5 x6 k:Int} (hx:bI (CV ((a1,a2),(a3,a4),(a5,a6))) ((x1,x2),(x3,x4),(x5,x6)) k) (w:World) (ht:gJ.Pow w) (he:whole.Er w) :
  Calls Tryz.prog 162 #[au #[Z I a1,Z I a2,Z I a3,Z I a4,Z I a5,Z I a6]] w (ah3 w x1 x2 x3 x4 x5 x6 k):=by
 have K1:∀ W,Calls Tryz.prog 212 #[au #[Z I a1,Z I a2,Z I a3,Z I a4,Z I a5,Z I a6]] W (fun e w'=>e= ah (Z I (vQ ((a1,a2),(a3,a4),(a5,a6))))∧Below W.heap.size W w'):=fun W=>OA a1 a2 a3 a4 a5 a6 W;have e0:CV ((a1,a2),(a3,a4),(a5,a6))=if vQ ((a1,a2),(a3,a4),(a5,a6))≠0 then (z3,vQ ((a1,a2),(a3,a4),(a5,a6))) else Io (a3,a4) (a5,a6):=rfl
 rw [e0] at hx;generalize vQ ((a1,a2),(a3,a4),(a5,a6))=c at *;clear e0
 by_cases h0:c=0
 rotate_left
 ·have hk:c=k:=(bI.pos hx h0).1;subst hk;refine Fx.door Tryz.func162 rfl (.nil w []) ?_;refine Fx.new [] 1 #[Z I a1,Z I a2,Z I a3,Z I a4,Z I a5,Z I a6] 211 [] [] fun gV=>?_;refine Fx.bq [] 2 35 [] [] fun iD=>?_;refine Fx.bq [] 3 207 [] [] fun iL=>?_;refine Fx.fC [3] 8 [] [] K1 ?_;refine Fx.part 7 [] [(10,ay (!(c == 0))),(5,Z I c)] [] ?_;refine Fx.PO true (by simp [h0]) ?_;exact Fx.FI 1 iD 2 iL [1,4,5] [(1,#[Z I 0,Z I 0]),(2,#[Z I 0,Z I 0,Z I 0,Z I 0])] (fun W M=>by have HB:=M.below;exact ⟨HB,.inr ⟨h0,rfl⟩⟩)
 subst h0;replace hx:=bI.neg hx zi
 by_cases h2:k=0
 ·skip
  refine Fx.door Tryz.func162 rfl (.nil w []) ?_;refine Fx.new [] 1 #[Z I a1,Z I a2,Z I a3,Z I a4,Z I a5,Z I a6] 211 [] [] fun gV=>?_;refine Fx.bq [] 2 35 [] [] fun iD=>?_;refine Fx.bq [] 3 207 [] [] fun iL=>?_;refine Fx.fC [3] 8 [] [] K1 ?_;refine Fx.call [2] 16 [] [] (fun W M=>Qy (yB (k:=k) W (fun V hV=>CU (l1:=a1) (l2:=a2) hx V ((M.box (b:=gV) 0).later hV) (ht.later (Bt M.below hV)) (he.later (Bt M.below hV))) (fun args W=>by kernel_rfl)) h2) ?_;refine Fx.bq [] 6 258 [(17,au #[Z I x1,Z I x2,Z I x3,Z I x4,Z I x5,Z I x6]),(18,Z I 0)] [] fun vo=>?_;refine Fx.draw [6] [0,1,2,3,4,3005,6,5007] [1] [(4,Z I 0)] [(3,#[Z I x1,Z I x2,Z I x3,Z I x4,Z I x5,Z I x6])] ?_
  exact Fx.FI 1 iD 2 iL [6,6,4,5] [(1,#[Z I x1,Z I x2]),(2,#[Z I x3,Z I x4,Z I x5,Z I x6])] (fun W M=>by have HB:=M.below;exact ⟨HB,.inl ⟨h2,rfl⟩⟩)
 ·skip
  refine Fx.door Tryz.func162 rfl (.nil w []) ?_;refine Fx.new [] 1 #[Z I a1,Z I a2,Z I a3,Z I a4,Z I a5,Z I a6] 211 [] [] fun gV=>?_;refine Fx.bq [] 2 35 [] [] fun iD=>?_;refine Fx.bq [] 3 207 [] [] fun iL=>?_;refine Fx.fC [3] 8 [] [] K1 ?_;refine Fx.call [2] 16 [] [] (fun W M=>Ul (yB (k:=k) W (fun V hV=>CU (l1:=a1) (l2:=a2) hx V ((M.box (b:=gV) 0).later hV) (ht.later (Bt M.below hV)) (he.later (Bt M.below hV))) (fun args W=>by kernel_rfl)) h2) ?_;refine Fx.bq [] 6 258 [(17,au #[Z I 0,Z I 0,Z I 0,Z I 0,Z I 0,Z I 0]),(18,Z I k)] [] fun vo=>?_;refine Fx.draw [6] [0,1,2,3,4,3005,6,5007] [1] [(4,Z I k)] [(3,#[Z I 0,Z I 0,Z I 0,Z I 0,Z I 0,Z I 0])] ?_
  exact Fx.FI 1 iD 2 iL [6,6,4,5] [(1,#[Z I 0,Z I 0]),(2,#[Z I 0,Z I 0,Z I 0,Z I 0])] (fun W M=>by have HB:=M.below;exact ⟨HB,.inr ⟨h2,rfl⟩⟩)
end Go.Proofs.lab
namespace Go.Proofs.differ
open Go Go.RowKit Go.SW Go.Num Go.Mem Go.Proofs Go.gW Go.Fx
def Br (a b:Fr):(Int × Int) × Int:=aP (0,0) (Jt a b) fun d=>aP (0,0) (aQ.jE d) lC
theorem Uv {a1 a2 a3 a4 a5 a6:ByteArray} {b1 b2 b3 b4 b5 b6:ByteArray} {x y k:Int} {p q:Nat} (hx:bI (Br ⟨a1,a2⟩ ⟨b1,b2⟩) (x,y) k) (w:World) (hp:aC w p #[O a1,O a2,O a3,O a4,O a5,O a6] 32) (hq:aC w q #[O b1,O b2,O b3,O b4,O b5,O b6] 32) (ht:gJ.Pow w) (he:whole.Er w) :
  Calls Tryz.prog 102 #[Z I 0,aA (some ⟨p,0,none⟩),aA (some ⟨q,0,none⟩)] w (Try w (au #[Z I x,Z I y]) k):=by
 unfold Br at hx;refine Fx.door Tryz.func102 rfl (.ro hp (.ro hq (.nil w []))) ?_;have HR:=hx;refine Fx.bq [] 4 35 [] [] fun gV=>?_;refine Fx.draw [] (bO 12) [] [] [] ?_;obtain ⟨⟨s2,t2⟩,k2,EX,HN⟩:=ak HR;refine Fx.call [3,4] 11 [] [] (fun W M=>QW EX _ (ht.later M.below)) ?_;refine Fx.aM bR [] 14 [] [] (fun W M=>jD (s:=s2) (t:=t2) _) HN fun _ HR=>?_;obtain ⟨⟨x4,y4⟩,_,EX,HN⟩:=ak HR;refine Fx.aM bR [] 15 [] [] (fun W M=>gT (bI.of EX) _ (ht.later M.below) (he.later M.below)) HN fun _ HR=>?_;obtain ⟨hk,hv⟩:=HR;cases hk
 exact Fx.iC (cs:=#[Z I x4,Z I y4]) 2 gV [5] [(2,#[Z I x4,Z I y4])] (fun W M=>⟨M.below,.inl ⟨rfl,by cases hv rfl;rfl⟩⟩)
theorem Uu {a1 a2 a3 a4 a5 a6:ByteArray} {b1 b2 b3 b4 b5 b6:ByteArray} {x y k:Int} {p q:Nat} (hx:bI (Br ⟨a3,a4⟩ ⟨b3,b4⟩) (x,y) k) (w:World) (hp:aC w p #[O a1,O a2,O a3,O a4,O a5,O a6] 32) (hq:aC w q #[O b1,O b2,O b3,O b4,O b5,O b6] 32) (ht:gJ.Pow w) (he:whole.Er w) :
  Calls Tryz.prog 102 #[Z I 1,aA (some ⟨p,0,none⟩),aA (some ⟨q,0,none⟩)] w (Try w (au #[Z I x,Z I y]) k):=by
 unfold Br at hx;refine Fx.door Tryz.func102 rfl (.ro hp (.ro hq (.nil w []))) ?_;have HR:=hx;refine Fx.bq [] 4 35 [] [] fun gV=>?_;refine Fx.draw [] (bO 12) [] [] [] ?_;obtain ⟨⟨s2,t2⟩,k2,EX,HN⟩:=ak HR;refine Fx.call [3,4] 11 [] [] (fun W M=>QW EX _ (ht.later M.below)) ?_;refine Fx.aM bR [] 14 [] [] (fun W M=>jD (s:=s2) (t:=t2) _) HN fun _ HR=>?_;obtain ⟨⟨x4,y4⟩,_,EX,HN⟩:=ak HR;refine Fx.aM bR [] 15 [] [] (fun W M=>gT (bI.of EX) _ (ht.later M.below) (he.later M.below)) HN fun _ HR=>?_;obtain ⟨hk,hv⟩:=HR;cases hk
 exact Fx.iC (cs:=#[Z I x4,Z I y4]) 2 gV [5] [(2,#[Z I x4,Z I y4])] (fun W M=>⟨M.below,.inl ⟨rfl,by cases hv rfl;rfl⟩⟩)
theorem Ut {a1 a2 a3 a4 a5 a6:ByteArray} {b1 b2 b3 b4 b5 b6:ByteArray} {x y k:Int} {p q:Nat} (hx:bI (Br ⟨a5,a6⟩ ⟨b5,b6⟩) (x,y) k) (w:World) (hp:aC w p #[O a1,O a2,O a3,O a4,O a5,O a6] 32) (hq:aC w q #[O b1,O b2,O b3,O b4,O b5,O b6] 32) (ht:gJ.Pow w) (he:whole.Er w) :
  Calls Tryz.prog 102 #[Z I 2,aA (some ⟨p,0,none⟩),aA (some ⟨q,0,none⟩)] w (Try w (au #[Z I x,Z I y]) k):=by
 unfold Br at hx;refine Fx.door Tryz.func102 rfl (.ro hp (.ro hq (.nil w []))) ?_;have HR:=hx;refine Fx.bq [] 4 35 [] [] fun gV=>?_;refine Fx.draw [] (bO 12) [] [] [] ?_;obtain ⟨⟨s2,t2⟩,k2,EX,HN⟩:=ak HR;refine Fx.call [3,4] 11 [] [] (fun W M=>QW EX _ (ht.later M.below)) ?_;refine Fx.aM bR [] 14 [] [] (fun W M=>jD (s:=s2) (t:=t2) _) HN fun _ HR=>?_;obtain ⟨⟨x4,y4⟩,_,EX,HN⟩:=ak HR;refine Fx.aM bR [] 15 [] [] (fun W M=>gT (bI.of EX) _ (ht.later M.below) (he.later M.below)) HN fun _ HR=>?_;obtain ⟨hk,hv⟩:=HR;cases hk
 exact Fx.iC (cs:=#[Z I x4,Z I y4]) 2 gV [5] [(2,#[Z I x4,Z I y4])] (fun W M=>⟨M.below,.inl ⟨rfl,by cases hv rfl;rfl⟩⟩)
def QO (t:light.uF):(Int × Int) × Int:=aP (0,0) (aQ.jE t.y) fun p=>aP (0,0) (aQ.jE t.z) fun q=>aP (0,0) (power.zG [p,q]) lC
theorem DW {a1 a2 a3 a4 a5 a6:ByteArray} {x y k:Int} (hx:bI (QO ⟨⟨a1,a2⟩,⟨a3,a4⟩,⟨a5,a6⟩⟩) (x,y) k) (w:World) (ht:gJ.Pow w) (he:whole.Er w):Calls Tryz.prog 103 #[au #[O a1,O a2,O a3,O a4,O a5,O a6]] w (Try w (au #[Z I x,Z I y]) k):=by
 unfold QO at hx;refine Fx.door Tryz.func103 rfl (.nil w []) ?_;have HR:=hx;refine Fx.new [] 1 #[O a1,O a2,O a3,O a4,O a5,O a6] 32 [] [] fun gV=>?_;refine Fx.bq [] 2 35 [] [] fun iD=>?_;refine Fx.draw [] [0,1,3,4,2,5,6,7,8,9,10,11] [] [] [] ?_;obtain ⟨⟨x3,y3⟩,_,EX,HN⟩:=ak HR;refine Fx.aM bR [3,3] 5 [(7,au #[O a5,O a6])] [] (fun W M=>gT (bI.of EX) _ (ht.later M.below) (he.later M.below)) HN fun _ HR=>?_;obtain ⟨⟨x4,y4⟩,_,EX,HN⟩:=ak HR;refine Fx.aM bR [] 8 [] [] (fun W M=>gT (bI.of EX) _ (ht.later M.below) (he.later M.below)) HN fun _ HR=>?_;refine Fx.newS [] 9 2 2 #[Z I x3,Z I y3,Z I x4,Z I y4] 35 [] [] fun rz=>?_;obtain ⟨⟨x6,y6⟩,k6,EX,HN⟩:=ak HR
 refine Fx.call [] 10 [] [] (fun W M=>Bv EX _ (M.box (b:=rz) (cs:=#[Z I x3,Z I y3,Z I x4,Z I y4]) 2) (ht.later M.below) (he.later M.below)) ?_;refine Fx.aM bR [] 13 [] [] (fun W M=>fM (x:=x6) (y:=y6) _) HN fun _ HR=>?_;obtain ⟨hk,hv⟩:=HR;cases hk
 exact Fx.iC (cs:=#[Z I x6,Z I y6]) 1 iD [4] [(1,#[Z I x6,Z I y6])] (fun W M=>⟨M.below,.inl ⟨rfl,by cases hv rfl;rfl⟩⟩)
abbrev B2:=(Int × Int) × (Int × Int)
abbrev B5:=B2 × (Int × Int) × (Int × Int) × (Int × Int)
def z4:B2:=((0,0),(0,0))
def kW:B5:=(z4,(0,0),(0,0),(0,0))
def Mw (a b:light.uF):B5 × Int:=aP kW (Br a.x b.x) fun l=>aP kW (Br a.y b.y) fun m=>aP kW (Br a.z b.z) fun n=>aP kW (QO a) fun f=>aP kW (QO b) fun g=>lC ((f,g),l,m,n)
theorem sZ {a1 a2 a3 a4 a5 a6:ByteArray} {b1 b2 b3 b4 b5 b6:ByteArray} {f1 f2 g1 g2 l1 l2 m1 m2 n1 n2 k:Int} (hx:bI (Mw ⟨⟨a1,a2⟩,⟨a3,a4⟩,⟨a5,a6⟩⟩ ⟨⟨b1,b2⟩,⟨b3,b4⟩,⟨b5,b6⟩⟩) (((f1,f2),(g1,g2)),(l1,l2),(m1,m2),(n1,n2)) k) (w:World) (ht:gJ.Pow w) (he:whole.Er w) :
  Calls Tryz.prog 65 #[au #[O a1,O a2,O a3,O a4,O a5,O a6],au #[O b1,O b2,O b3,O b4,O b5,O b6]] w (Try w (au #[Z I f1,Z I f2,Z I g1,Z I g2,O a1,O a2,O a3,O a4,O a5,O a6,O b1,O b2,O b3,O b4,O b5,O b6,Z I l1,Z I l2,Z I m1,Z I m2,Z I n1,Z I n2]) k):=by
 unfold Mw at hx;refine Fx.door Tryz.func65 rfl (.nil w []) ?_;have HR:=hx;refine Fx.new [] 2 #[O a1,O a2,O a3,O a4,O a5,O a6] 32 [] [] fun gV=>?_;refine Fx.new [] 3 #[O b1,O b2,O b3,O b4,O b5,O b6] 32 [] [] fun iD=>?_;refine Fx.bq [] 4 106 [] [] fun iL=>?_;refine Fx.bq [3,4] 5 106 [(9,au #[Z I 0,Z I 0,Z I 0,Z I 0,O a1,O a2,O a3,O a4,O a5,O a6,O b1,O b2,O b3,O b4,O b5,O b6,Z I 0,Z I 0,Z I 0,Z I 0,Z I 0,Z I 0])] [] fun vo=>?_;obtain ⟨⟨x5,y5⟩,_,EX,HN⟩:=ak HR
 refine Fx.aM bR [6] 12 [(6,.func (.func 102) #[] #[aA (some ⟨gV,0,none⟩),aA (some ⟨iD,0,none⟩)])] [(3,#[Z I 0,Z I 0,Z I 0,Z I 0,O a1,O a2,O a3,O a4,O a5,O a6,O b1,O b2,O b3,O b4,O b5,O b6,Z I 0,Z I 0,Z I 0,Z I 0,Z I 0,Z I 0])] (fun W M=>Uv (bI.of EX) _ (M.box (b:=gV) (cs:=#[O a1,O a2,O a3,O a4,O a5,O a6]) 0) (M.box (b:=iD) (cs:=#[O b1,O b2,O b3,O b4,O b5,O b6]) 1) (ht.later M.below) (he.later M.below)) HN fun _ HR=>?_;obtain ⟨⟨x6,y6⟩,_,EX,HN⟩:=ak HR
 refine Fx.aM bR [] 14 [] [] (fun W M=>Uu (bI.of EX) _ (M.box (b:=gV) (cs:=#[O a1,O a2,O a3,O a4,O a5,O a6]) 0) (M.box (b:=iD) (cs:=#[O b1,O b2,O b3,O b4,O b5,O b6]) 1) (ht.later M.below) (he.later M.below)) HN fun _ HR=>?_;obtain ⟨⟨x7,y7⟩,_,EX,HN⟩:=ak HR;refine Fx.aM bR [] 16 [] [] (fun W M=>Ut (bI.of EX) _ (M.box (b:=gV) (cs:=#[O a1,O a2,O a3,O a4,O a5,O a6]) 0) (M.box (b:=iD) (cs:=#[O b1,O b2,O b3,O b4,O b5,O b6]) 1) (ht.later M.below) (he.later M.below)) HN fun _ HR=>?_
 refine Fx.draw [6,6,6] [0,2,1,4,5,3,6,5007,5008,9] [] [] [(3,#[Z I 0,Z I 0,Z I 0,Z I 0,O a1,O a2,O a3,O a4,O a5,O a6,O b1,O b2,O b3,O b4,O b5,O b6,Z I x5,Z I y5,Z I x6,Z I y6,Z I x7,Z I y7])] ?_;obtain ⟨⟨x8,y8⟩,_,EX,HN⟩:=ak HR;refine Fx.aM bR [3,4] 21 [(22,au #[O b1,O b2,O b3,O b4,O b5,O b6])] [] (fun W M=>DW (bI.of EX) _ (ht.later M.below) (he.later M.below)) HN fun _ HR=>?_;obtain ⟨⟨x9,y9⟩,_,EX,HN⟩:=ak HR;refine Fx.aM bR [] 23 [(25,aA (some ⟨vo,0,none⟩))] [] (fun W M=>DW (bI.of EX) _ (ht.later M.below) (he.later M.below)) HN fun _ HR=>?_;obtain ⟨hk,hv⟩:=HR;cases hk
 exact Fx.iC (cs:=#[Z I x8,Z I y8,Z I x9,Z I y9,O a1,O a2,O a3,O a4,O a5,O a6,O b1,O b2,O b3,O b4,O b5,O b6,Z I x5,Z I y5,Z I x6,Z I y6,Z I x7,Z I y7]) 2 iL [6,6,6,5] [(2,#[Z I x8,Z I y8,Z I x9,Z I y9,O a1,O a2,O a3,O a4,O a5,O a6,O b1,O b2,O b3,O b4,O b5,O b6,Z I x5,Z I y5,Z I x6,Z I y6,Z I x7,Z I y7]),(3,#[Z I x8,Z I y8,Z I x9,Z I y9,O a1,O a2,O a3,O a4,O a5,O a6,O b1,O b2,O b3,O b4,O b5,O b6,Z I x5,Z I y5,Z I x6,Z I y6,Z I x7,Z I y7])] (fun W M=>⟨M.below,.inl ⟨rfl,by cases hv rfl;rfl⟩⟩)
def opn:Int × Int:=(-1000000000000,1000000000000)
def Nq (x y z:Fr):B2 × Int:=aP z4 (aQ.jE x) fun p=>aP z4 (aQ.jE y) fun q=>aP z4 (aQ.jE z) fun r =>
 if (lab.CV (p,q,r)).2=7 then lC (opn,opn) else aP z4 (sM (lab.CV (p,q,r)).2) fun _=>lC ((lab.CV (p,q,r)).1.2.1,(lab.CV (p,q,r)).1.2.2)
theorem P5 {a1 a2 a3 a4 a5 a6:Int} {z:((Int × Int) × (Int × Int) × (Int × Int)) × Int} (hz:lab.CV ((a1,a2),(a3,a4),(a5,a6))=z):∃ v1 v2 v3 v4 v5 v6:Int,(z.2=0→z.1=((v1,v2),(v3,v4),(v5,v6)))∧∀ w:World,gJ.Pow w→whole.Er w →
  Calls Tryz.prog 162 #[au #[Z I a1,Z I a2,Z I a3,Z I a4,Z I a5,Z I a6]] w (fun e w'=>e= ah (aD #[au #[Z I v1,Z I v2],au #[Z I v3,Z I v4,Z I v5,Z I v6],Z I z.2])∧Below w.heap.size w w'):=by
 obtain ⟨⟨⟨x1,x2⟩,⟨x3,x4⟩,⟨x5,x6⟩⟩,k⟩:=z
 by_cases hk:k=0
 ·subst hk
  exact ⟨x1,x2,x3,x4,x5,x6,fun _=>rfl,fun w ht he=>(lab.Jc (bI.of hz) w ht he).mono fun _ _ ⟨hb,hh⟩=>by
   rcases hh with ⟨-, rfl⟩|⟨h, -⟩
   ·exact ⟨rfl,hb⟩
   ·exact absurd rfl h⟩
 ·exact ⟨0,0,0,0,0,0,fun h=>absurd h hk,fun w ht he=>(lab.Jc (bI.of hz) w ht he).mono fun _ _ ⟨hb,hh⟩=>by
   rcases hh with ⟨h, -⟩|⟨-, rfl⟩
   ·exact absurd h hk
   ·exact ⟨rfl,hb⟩⟩
theorem IW {a1 a2 a3 a4 a5 a6:ByteArray} {x1 x2 x3 x4 k:Int} (hx:bI (Nq ⟨a1,a2⟩ ⟨a3,a4⟩ ⟨a5,a6⟩) ((x1,x2),(x3,x4)) k) (w:World) (ht:gJ.Pow w) (he:whole.Er w):Calls Tryz.prog 118 #[au #[O a1,O a2,O a3,O a4,O a5,O a6]] w (Try w (aD #[au #[Z I x1,Z I x2],au #[Z I x3,Z I x4]]) k):=by
 unfold Nq at hx;refine Fx.door Tryz.func118 rfl (.nil w []) ?_;have HR:=hx;refine Fx.new [] 1 #[O a1,O a2,O a3,O a4,O a5,O a6] 32 [] [] fun gV=>?_;refine Fx.bq [] 2 35 [] [] fun iD=>?_;refine Fx.bq [] 3 35 [] [] fun iL=>?_;refine Fx.draw [] [0,1,3,4,6,7,2,5,8,9,10,11,12,13,14,15,16,17,18,5019] [] [] [] ?_;obtain ⟨⟨x4,y4⟩,k4,EX,HN⟩:=ak HR;refine Fx.aM bR [3,3,3] 11 [(13,au #[O a3,O a4]),(16,au #[O a5,O a6])] [] (fun W M=>gT (bI.of EX) _ (ht.later M.below) (he.later M.below)) HN fun h0 HR=>?_;subst h0;obtain ⟨⟨x5,y5⟩,k5,EX,HN⟩:=ak HR;refine Fx.aM bR [] 14 [] [] (fun W M=>gT (bI.of EX) _ (ht.later M.below) (he.later M.below)) HN fun h0 HR=>?_;subst h0;obtain ⟨⟨x6,y6⟩,k6,EX,HN⟩:=ak HR
 refine Fx.aM bR [] 17 [] [] (fun W M=>gT (bI.of EX) _ (ht.later M.below) (he.later M.below)) HN fun h0 HR=>?_;subst h0;generalize hz:lab.CV _=z at HR;obtain ⟨v1,v2,v3,v4,v5,v6,hv,HP⟩:=P5 hz;obtain ⟨zv,c⟩:=z;simp only at hv HP HR;refine Fx.call [] 19 [] [] (fun W M=>HP W (ht.later M.below) (he.later M.below)) ?_;refine Fx.cK [] 4 35 [(20,au #[Z I v1,Z I v2]),(21,au #[Z I v3,Z I v4,Z I v5,Z I v6]),(22,Z I c)] [] fun Aq=>?_;refine Fx.cK [] 5 207 [] [] fun Le=>?_;refine Fx.part 11 [6,7] [(24,ay (c == 7)),(6,Z I c)] [(3,#[Z I v1,Z I v2]),(4,#[Z I v3,Z I v4,Z I v5,Z I v6])] ?_;refine Fx.splitB (fun hf1=>?_) (fun hf1=>?_)
 ·skip
  replace HR:=bI.pos HR (by simpa using hf1);refine Fx.bq [1] 7 35 [(25,au #[Z I (-1000000000000),Z I 1000000000000])] [] fun YI=>?_;refine Fx.draw [8] [0,1,3002,3] [1] [] [(5,#[Z I (-1000000000000),Z I 1000000000000])] ?_;obtain ⟨hk,hv⟩:=HR;cases hk
  exact Fx.RP (cs:=#[Z I (-1000000000000),Z I 1000000000000]) (cs2:=#[Z I (-1000000000000),Z I 1000000000000]) 1 iD 2 iL [8,8,4,5] [(1,#[Z I (-1000000000000),Z I 1000000000000]),(2,#[Z I (-1000000000000),Z I 1000000000000])] (fun W M=>⟨M.below,.inl ⟨rfl,by cases hv rfl;rfl⟩⟩)
 ·skip
  replace HR:=bI.neg HR (by simpa using hf1);obtain ⟨_,k10,EX,HN⟩:=ak HR;refine Fx.aM bR [2] 29 [] [] (fun W M=>xB (bI.of EX) _) HN fun h0 HR=>?_;subst h0;have h0:c=0:=congrArg Prod.snd EX;have h1:=hv h0;subst h1;subst h0;refine Fx.draw [] [0,1,2,3,3004,5] [1] [] [] ?_;obtain ⟨hk,hv⟩:=HR;cases hk
  exact Fx.RP (cs:=#[Z I v3,Z I v4]) (cs2:=#[Z I v5,Z I v6]) 1 iD 2 iL [7,7,4,5] [(1,#[Z I v3,Z I v4]),(2,#[Z I v5,Z I v6])] (fun W M=>⟨M.below,.inl ⟨rfl,by cases hv rfl;rfl⟩⟩)
end Go.Proofs.differ
