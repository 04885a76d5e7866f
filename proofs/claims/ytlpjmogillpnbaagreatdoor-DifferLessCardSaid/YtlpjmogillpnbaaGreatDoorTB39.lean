/- Lemmas for the proof. No condition. -/
import Derived.Test.YtlpjmogillpnbaaGreatDoorTB38
set_option linter.unusedVariables false
set_option linter.unusedSimpArgs false
set_option maxRecDepth 100000
set_option maxHeartbeats 16000000
open Go.Ending renaming returned → ah
open Go.IntKind renaming i64 → I
open Go.Value renaming agg → au, bool → ay, int → Z, pointer → aA, string → O, tuple → aD
open List renaming cons_append → cZ, length_cons → aZ, set_cons_succ → aH, set_cons_zero → aG
open Nat renaming le_refl → aI
namespace Go.Proofs.differ
open Go Go.RowKit Go.SW Go.Num Go.Mem Go.Proofs Go.Dec Go.gW
theorem qR (er:Int) (w:World):(Instr.typeAssert (.iface 99 (au #[Z I er])) 20 99 true).run Tryz.prog w= .ok (aD #[au #[Z I er],ay true]) w:=by kernel_rfl
theorem iY {w:World} {b:Nat} {cs cs':Array Value} {T:TypeId} (h:aC w b cs T) (e:cs=cs'):aC w b cs' T:=e ▸ h
def caught (er:Int) (rec:Bool):FrameMode:=.panicking [{ v:=.iface 99 (au #[Z I er]),recovered:=rec }]
theorem fJ {P:Program} {fn:Func} {w:World} {tmps:Array Value} {p q:Tmp} {ty pR:TypeId} {g g2:Nat} {x y:Value} (h:fn.results=#[.cell p ty,.cell q pR])
  (hp:tmps.getD p undef= aA (some ⟨g,0,none⟩)) (hq:tmps.getD q undef= aA (some ⟨g2,0,none⟩)) (h1:(loadVar ty ⟨g,0,none⟩).run P w= .ok x w) (h2:(loadVar pR ⟨g2,0,none⟩).run P w= .ok y w) :
  (results fn tmps).run P w= .ok (aD #[x,y]) w:=by
 have hp':tmps[p]?.getD undef= aA (some ⟨g,0,none⟩):=by simpa using hp
 have hq':tmps[q]?.getD undef= aA (some ⟨g2,0,none⟩):=by simpa using hq
 simp [results,h,hp',hq',asAddr,h1,h2]
theorem jX {w:World} {c:Nat} {z:Int} (h:aC w c #[Z I z] 36):(loadVar 36 ⟨c,0,none⟩).run Tryz.prog w= .ok (Z I z) w:=by
 have hc:=h.cell 0;simp [go_sem,hc]
theorem Eo (p q:Addr) (w:World) :
  CallsD Tryz.prog 64 #[aA (some p),aA (some q)] .returning w fun e u' w'=>e= ah (aD #[])∧u'= .returning∧w'=w:=by
 refine callsD_of_wpS Tryz.func64 rfl fun c₀ cs hu=>?_;simp only [Tryz.ntmps64,List.size_toArray,aZ,List.length_nil,Nat.reduceAdd,Nat.reduceSub,Array.replicate_succ,Array.replicate_zero,List.push_toArray,List.append_toArray,List.nil_append,cZ];refine wpS_seq (wpS_region ?_);generalize hQ:Exit.thenS _ _=Q;simp [wpOpsS,go_sem,recoverD,hu]
 rw [← hQ];clear hQ;refine wpS_of_wp ?_;go_wp2_with fail
 cases c₀
 simp_all [bodyPostS,results,Tryz.results64]
theorem UD (b c:Nat) (s1 s2:Int) (z er:Int) (w:World) (hb:aC w b #[Z I s1,Z I s2] 35) (hc:aC w c #[Z I z] 36) :
  CallsD Tryz.prog 64 #[aA (some ⟨b,0,none⟩),aA (some ⟨c,0,none⟩)] (caught er false) w fun e u' w' =>
   e= ah (aD #[])∧u'=caught er true∧aC w' b #[Z I 0,Z I 0] 35∧aC w' c #[Z I er] 36∧∀ w0:World,w0.heap.size≤b→w0.heap.size≤c→Below w0.heap.size w0 w→Below w0.heap.size w0 w':=by
 unfold caught;refine callsD_of_wpS Tryz.func64 rfl fun c₀ cs hu=>?_;simp only [Tryz.ntmps64,List.size_toArray,aZ,List.length_nil,Nat.reduceAdd,Nat.reduceSub,Array.replicate_succ,Array.replicate_zero,List.push_toArray,List.append_toArray,List.nil_append,cZ];refine wpS_seq (wpS_region ?_);generalize hQ:Exit.thenS _ _=Q;simp [wpOpsS,go_sem,recoverD,hu]
 rw [← hQ];clear hQ;refine wpS_of_wp ?_;have cb:=hb.cell;have fb:=hb.free;have cc:=hc.cell;have fc:=hc.free;have lb:=hb.lt;have lc:=hc.lt;have hne:b≠c:=hb.ne hc zd;have hne2:c≠b:=fun e=>hne e.symm;have hta:=qR er;obtain ⟨R,HR⟩:∃ R:Ending→FrameMode→World→Prop,Hid (R=fun e u' w'=>e= ah (aD #[])∧u'= .panicking [{ v:=.iface 99 (au #[Z I er]),recovered:=true }]∧aC w' b #[Z I 0,Z I 0] 35∧aC w' c #[Z I er] 36∧∀ w0:World,w0.heap.size≤b→w0.heap.size≤c→Below w0.heap.size w0 w→Below w0.heap.size w0 w'):=⟨_,zh rfl⟩
 rw [← HR.out];go_wp2_with fail
 simp only [bodyPostS];refine ⟨trivial,_,rfl,_,results_none rfl _ _ _,?_⟩;rw [HR.out];refine ⟨rfl,rfl,?_,?_,fun w0 h1 h2 h3=>?_⟩
 ·apply iY
  ·exact bf
  ·simp only [List.setIfInBounds_toArray,aG,aH]
 ·apply iY
  ·exact bf
  ·simp only [List.setIfInBounds_toArray,aG,aH]
 ·exact aN
theorem Ng {w:World} {b:Nat} {s1 s2:Int} (h:aC w b #[Z I s1,Z I s2] 35):(loadVar 35 ⟨b,0,none⟩).run Tryz.prog w= .ok (au #[Z I s1,Z I s2]) w :=
 run_loadVar_row w b 35 35 _ (0,0) _ h Tryz.underlying35 rfl zk
theorem GH {f:FuncId} {caps:Array Value} {k:Int} {s1 s2:Int} (w:World) (HC:∀ W,Below w.heap.size w W→Calls Tryz.prog f caps W (Try W (au #[Z I s1,Z I s2]) k))
  (hf:∀ args W,(callFunc f args).run Tryz.prog W= .ok (.enter f args) W) :
  Calls Tryz.prog 28 #[.func (.func f) #[] caps] w (G8 w (au #[Z I s1,Z I s2]) (au #[Z I 0,Z I 0]) k):=by
 have ZG:∀ (fn:Fn) (first cap:Array Value) (w:World),(Instr.makeFunc fn first cap).run Tryz.prog w= .ok (.func fn first cap) w:=fun _ _ _ _=>rfl;have Zf:=zh HC;clear HC;have hb0:Below w.heap.size w ((w.alloc (.cells #[Z I 0,Z I 0] 35)).alloc (.cells #[Z I 0] 36)):=aN;obtain ⟨w0,Jg⟩:∃ y,(w.alloc (.cells #[Z I 0,Z I 0] 35)).alloc (.cells #[Z I 0] 36)=y:=⟨_,rfl⟩;have hx1:aC w0 w.heap.size #[Z I 0,Z I 0] 35:=by rw [← Jg];exact bf
 have hx2:aC w0 (w.heap.size+1) #[Z I 0] 36:=by rw [← Jg];exact bf
 rw [Jg] at hb0
 go_enter_defers Tryz.func28,Tryz.ntmps28
 go_wp2_with fail
 refine (Zf.out _ hb0).mono ?_;rintro e w1 ⟨hb1,⟨rfl,rfl⟩|⟨h,rfl⟩⟩
 ·replace hx1:=hx1.later hb1;replace hx2:=hx2.later hb1;have c1:=hx1.cell;have f1:=hx1.free;have c2:=hx2.cell;have f2:=hx2.free;have hne:w.heap.size≠w.heap.size+1:=by omega
  have hx3:aC (((w1.setCell ⟨w.heap.size,0,none⟩ (Z I s1)).setCell ⟨w.heap.size,1,none⟩ (Z I s2)).setCell ⟨w.heap.size+1,0,none⟩ (Z I 0)) w.heap.size #[Z I s1,Z I s2] 35:=by
   apply iY
   ·exact bf
   ·simp only [List.setIfInBounds_toArray,aG,aH]
  have hx4:aC (((w1.setCell ⟨w.heap.size,0,none⟩ (Z I s1)).setCell ⟨w.heap.size,1,none⟩ (Z I s2)).setCell ⟨w.heap.size+1,0,none⟩ (Z I 0)) (w.heap.size+1) #[Z I 0] 36:=by
   apply iY
   ·exact bf
   ·simp only [List.setIfInBounds_toArray,aG,aH]
  have hbw:Below w.heap.size w (((w1.setCell ⟨w.heap.size,0,none⟩ (Z I s1)).setCell ⟨w.heap.size,1,none⟩ (Z I s2)).setCell ⟨w.heap.size+1,0,none⟩ (Z I 0)):=by
   have:=Bt hb0 hb1;exact aN
  have Pg:=zh hx3;have YV:=zh hx4;have Zh:=zh hbw;clear hx3 hx4 hbw Jg hx1 hx2 hb0 hb1;go_wp2_with fail
  refine leaves_cons (f:=64) (args:=#[aA (some ⟨w.heap.size,0,none⟩),aA (some ⟨w.heap.size+1,0,none⟩)]) zi (by simp [go_sem]) ?_;refine (Eo _ _ _).mono ?_;rintro e u' w'' ⟨rfl,rfl,rfl⟩;exact ⟨_,fJ rfl rfl rfl (Ng Pg.out) (jX YV.out),Zh.out,.inl ⟨rfl,rfl⟩⟩
 ·replace hx1:=hx1.later hb1;replace hx2:=hx2.later hb1
  change bodyPostD _ _ _ (Exit.panic [{ v:=.iface 99 (au #[Z I k]),recovered:=false }]) _ _
  refine leaves_cons (f:=64) (args:=#[aA (some ⟨w.heap.size,0,none⟩),aA (some ⟨w.heap.size+1,0,none⟩)]) zi (by simp [go_sem]) ?_;refine (UD w.heap.size (w.heap.size+1) _ _ _ k _ hx1 hx2).mono ?_;rintro e u' w'' ⟨rfl,rfl,hy1,hy2,hbb⟩;exact ⟨_,fJ rfl rfl rfl (Ng hy1) (jX hy2),hbb w (aI _) zo (Bt hb0 hb1),.inr ⟨h,rfl⟩⟩
theorem D7 (p q:Addr) (w:World) :
  CallsD Tryz.prog 85 #[aA (some p),aA (some q)] .returning w fun e u' w'=>e= ah (aD #[])∧u'= .returning∧w'=w:=by
 refine callsD_of_wpS Tryz.func85 rfl fun c₀ cs hu=>?_;simp only [Tryz.ntmps85,List.size_toArray,aZ,List.length_nil,Nat.reduceAdd,Nat.reduceSub,Array.replicate_succ,Array.replicate_zero,List.push_toArray,List.append_toArray,List.nil_append,cZ];refine wpS_seq (wpS_region ?_);generalize hQ:Exit.thenS _ _=Q;simp [wpOpsS,go_sem,recoverD,hu]
 rw [← hQ];clear hQ;refine wpS_of_wp ?_;go_wp2_with fail
 cases c₀
 simp_all [bodyPostS,results,Tryz.results85]
theorem UC (b c:Nat) (s1:Int) (z er:Int) (w:World) (hb:aC w b #[Z I s1] 3) (hc:aC w c #[Z I z] 36) :
  CallsD Tryz.prog 85 #[aA (some ⟨b,0,none⟩),aA (some ⟨c,0,none⟩)] (caught er false) w fun e u' w' =>
   e= ah (aD #[])∧u'=caught er true∧aC w' b #[Z I 0] 3∧aC w' c #[Z I er] 36∧∀ w0:World,w0.heap.size≤b→w0.heap.size≤c→Below w0.heap.size w0 w→Below w0.heap.size w0 w':=by
 unfold caught;refine callsD_of_wpS Tryz.func85 rfl fun c₀ cs hu=>?_;simp only [Tryz.ntmps85,List.size_toArray,aZ,List.length_nil,Nat.reduceAdd,Nat.reduceSub,Array.replicate_succ,Array.replicate_zero,List.push_toArray,List.append_toArray,List.nil_append,cZ];refine wpS_seq (wpS_region ?_);generalize hQ:Exit.thenS _ _=Q;simp [wpOpsS,go_sem,recoverD,hu]
 rw [← hQ];clear hQ;refine wpS_of_wp ?_;have cb:=hb.cell;have fb:=hb.free;have cc:=hc.cell;have fc:=hc.free;have lb:=hb.lt;have lc:=hc.lt;have hne:b≠c:=hb.ne hc zd;have hne2:c≠b:=fun e=>hne e.symm;have hta:=qR er;obtain ⟨R,HR⟩:∃ R:Ending→FrameMode→World→Prop,Hid (R=fun e u' w'=>e= ah (aD #[])∧u'= .panicking [{ v:=.iface 99 (au #[Z I er]),recovered:=true }]∧aC w' b #[Z I 0] 3∧aC w' c #[Z I er] 36∧∀ w0:World,w0.heap.size≤b→w0.heap.size≤c→Below w0.heap.size w0 w→Below w0.heap.size w0 w'):=⟨_,zh rfl⟩
 rw [← HR.out];go_wp2_with fail
 simp only [bodyPostS];refine ⟨trivial,_,rfl,_,results_none rfl _ _ _,?_⟩;rw [HR.out];refine ⟨rfl,rfl,?_,?_,fun w0 h1 h2 h3=>?_⟩
 ·apply iY
  ·exact bf
  ·simp only [List.setIfInBounds_toArray,aG,aH]
 ·apply iY
  ·exact bf
  ·simp only [List.setIfInBounds_toArray,aG,aH]
 ·exact aN
theorem Nf {w:World} {b:Nat} {s1:Int} (h:aC w b #[Z I s1] 3):(loadVar 3 ⟨b,0,none⟩).run Tryz.prog w= .ok (Z I s1) w:=by
 have hc:=h.cell 0;simp [go_sem,hc]
theorem GA {f:FuncId} {caps:Array Value} {k:Int} {s1:Int} (w:World) (HC:∀ W,Below w.heap.size w W→Calls Tryz.prog f caps W (Try W (Z I s1) k))
  (hf:∀ args W,(callFunc f args).run Tryz.prog W= .ok (.enter f args) W) :
  Calls Tryz.prog 36 #[.func (.func f) #[] caps] w (G8 w (Z I s1) (Z I 0) k):=by
 have ZG:∀ (fn:Fn) (first cap:Array Value) (w:World),(Instr.makeFunc fn first cap).run Tryz.prog w= .ok (.func fn first cap) w:=fun _ _ _ _=>rfl;have Zf:=zh HC;clear HC;have hb0:Below w.heap.size w ((w.alloc (.cells #[Z I 0] 3)).alloc (.cells #[Z I 0] 36)):=aN;obtain ⟨w0,Jg⟩:∃ y,(w.alloc (.cells #[Z I 0] 3)).alloc (.cells #[Z I 0] 36)=y:=⟨_,rfl⟩;have hx1:aC w0 w.heap.size #[Z I 0] 3:=by rw [← Jg];exact bf
 have hx2:aC w0 (w.heap.size+1) #[Z I 0] 36:=by rw [← Jg];exact bf
 rw [Jg] at hb0
 go_enter_defers Tryz.func36,Tryz.ntmps36
 go_wp2_with fail
 refine (Zf.out _ hb0).mono ?_;rintro e w1 ⟨hb1,⟨rfl,rfl⟩|⟨h,rfl⟩⟩
 ·replace hx1:=hx1.later hb1;replace hx2:=hx2.later hb1;have c1:=hx1.cell;have f1:=hx1.free;have c2:=hx2.cell;have f2:=hx2.free;have hne:w.heap.size≠w.heap.size+1:=by omega
  have hx3:aC ((w1.setCell ⟨w.heap.size,0,none⟩ (Z I s1)).setCell ⟨w.heap.size+1,0,none⟩ (Z I 0)) w.heap.size #[Z I s1] 3:=by
   apply iY
   ·exact bf
   ·simp only [List.setIfInBounds_toArray,aG,aH]
  have hx4:aC ((w1.setCell ⟨w.heap.size,0,none⟩ (Z I s1)).setCell ⟨w.heap.size+1,0,none⟩ (Z I 0)) (w.heap.size+1) #[Z I 0] 36:=by
   apply iY
   ·exact bf
   ·simp only [List.setIfInBounds_toArray,aG,aH]
  have hbw:Below w.heap.size w ((w1.setCell ⟨w.heap.size,0,none⟩ (Z I s1)).setCell ⟨w.heap.size+1,0,none⟩ (Z I 0)):=by
   have:=Bt hb0 hb1;exact aN
  have Pg:=zh hx3;have YV:=zh hx4;have Zh:=zh hbw;clear hx3 hx4 hbw Jg hx1 hx2 hb0 hb1;go_wp2_with fail
  refine leaves_cons (f:=85) (args:=#[aA (some ⟨w.heap.size,0,none⟩),aA (some ⟨w.heap.size+1,0,none⟩)]) zi (by simp [go_sem]) ?_;refine (D7 _ _ _).mono ?_;rintro e u' w'' ⟨rfl,rfl,rfl⟩;exact ⟨_,fJ rfl rfl rfl (Nf Pg.out) (jX YV.out),Zh.out,.inl ⟨rfl,rfl⟩⟩
 ·replace hx1:=hx1.later hb1;replace hx2:=hx2.later hb1
  change bodyPostD _ _ _ (Exit.panic [{ v:=.iface 99 (au #[Z I k]),recovered:=false }]) _ _
  refine leaves_cons (f:=85) (args:=#[aA (some ⟨w.heap.size,0,none⟩),aA (some ⟨w.heap.size+1,0,none⟩)]) zi (by simp [go_sem]) ?_;refine (UC w.heap.size (w.heap.size+1) _ _ k _ hx1 hx2).mono ?_;rintro e u' w'' ⟨rfl,rfl,hy1,hy2,hbb⟩;exact ⟨_,fJ rfl rfl rfl (Nf hy1) (jX hy2),hbb w (aI _) zo (Bt hb0 hb1),.inr ⟨h,rfl⟩⟩
end Go.Proofs.differ
namespace Go.Proofs.differ
open Go Go.RowKit Go.SW Go.Num Go.Mem Go.Proofs Go.gW Go.Fx
def vk (kind:Int) (a b:light.uF) (l c:Fr):Int :=
 if kind<1 then 2 else if 4<kind then 2 else if q9 a.x≠0 then q9 a.x else if q9 a.y≠0 then q9 a.y else if q9 a.z≠0 then q9 a.z else if q9 b.x≠0 then q9 b.x else if q9 b.y≠0 then q9 b.y else if q9 b.z≠0 then q9 b.z else if q9 l≠0 then q9 l else if q9 c≠0 then q9 c else if (rT l).2≠0 then (rT l).2 else if (rT l).1≤0 then 2 else if (rT c).2≠0 then (rT c).2 else if (rT c).1≤0 then 2 else 0
theorem gI {kind:Int} {a1 a2 a3 a4 a5 a6:ByteArray} {b1 b2 b3 b4 b5 b6:ByteArray} {l1 l2 c1 c2:ByteArray} (w:World):Calls Tryz.prog 31 #[Z I kind,au #[O a1,O a2,O a3,O a4,O a5,O a6],au #[O b1,O b2,O b3,O b4,O b5,O b6],au #[O l1,O l2],au #[O c1,O c2]] w (fun e w'=>e= ah (Z I (vk kind ⟨⟨a1,a2⟩,⟨a3,a4⟩,⟨a5,a6⟩⟩ ⟨⟨b1,b2⟩,⟨b3,b4⟩,⟨b5,b6⟩⟩ ⟨l1,l2⟩ ⟨c1,c2⟩))∧Below w.heap.size w w'):=by
 have K1:=fun W=>dD.gI ⟨a1,a2⟩ W;have K2:=fun W=>dD.gI ⟨a3,a4⟩ W;have K3:=fun W=>dD.gI ⟨a5,a6⟩ W;have K4:=fun W=>dD.gI ⟨b1,b2⟩ W;have K5:=fun W=>dD.gI ⟨b3,b4⟩ W;have K6:=fun W=>dD.gI ⟨b5,b6⟩ W;have K7:=fun W=>dD.gI ⟨l1,l2⟩ W;have K8:=fun W=>dD.gI ⟨c1,c2⟩ W;have S1:=fun W=>dD.BM ⟨l1,l2⟩ W;have S2:=fun W=>dD.BM ⟨c1,c2⟩ W;unfold vk;simp only [Fr.v] at K1 K2 K3 K4 K5 K6 K7 K8 S1 S2 ⊢;generalize q9 ⟨a1,a2⟩=k1 at *;generalize q9 ⟨a3,a4⟩=k2 at *;generalize q9 ⟨a5,a6⟩=k3 at *;generalize q9 ⟨b1,b2⟩=k4 at *;generalize q9 ⟨b3,b4⟩=k5 at *;generalize q9 ⟨b5,b6⟩=k6 at *;generalize q9 ⟨l1,l2⟩=k7 at *;generalize q9 ⟨c1,c2⟩=k8 at *;generalize rT ⟨l1,l2⟩=s at *;generalize rT ⟨c1,c2⟩=t at *;obtain ⟨s1,s2⟩:=s;obtain ⟨t1,t2⟩:=t;simp only at *;refine Fx.door Tryz.func31 rfl (.nil w []) ?_
 refine Fx.new [] 6 #[O a1,O a2,O a3,O a4,O a5,O a6] 32 [] [] fun gV=>?_;refine Fx.new [] 7 #[O b1,O b2,O b3,O b4,O b5,O b6] 32 [] [] fun iD=>?_;refine Fx.new [] 8 #[O l1,O l2] 29 [] [] fun iL=>?_;refine Fx.new [] 9 #[O c1,O c2] 29 [] [] fun vo=>?_;refine Fx.part 8 [] [(19,ay (decide (kind<1)))] [] ?_;refine Fx.splitB (fun H1=>?_) (fun H1=>?_)
 ·skip
  exact Fx.jU (v:=Z I 2) [1] [] (fun W M=>by have HB:=M.below;exact ⟨by simp_all<;>omega,HB⟩)
 ·skip
  refine Fx.part 3 [] [(22,ay (decide (4<kind))),(20,ay false)] [] ?_;refine Fx.splitB (fun H2=>?_) (fun H2=>?_)
  ·skip
   exact Fx.jU (v:=Z I 2) [1] [] (fun W M=>by have HB:=M.below;exact ⟨by simp_all<;>omega,HB⟩)
  ·skip
   refine Fx.bq [2,3,3,3,4,4,4,5,6,1] 12 29 [(38,au #[O a1,O a2,O a3,O a4,O a5,O a6,O b1,O b2,O b3,O b4,O b5,O b6,O l1,O l2,O c1,O c2]),(39,Z I 0),(41,au #[O a1,O a2])] [] fun rz=>?_;refine Fx.fC [7,7] 43 [] [(4,#[O a1,O a2])] K1 ?_;refine Fx.part 7 [] [(45,ay (!(k1 == 0))),(13,Z I k1)] [] ?_;refine Fx.splitB (fun H3=>?_) (fun H3=>?_)
   ·skip
    exact Fx.jU (v:=Z I k1) [1] [] (fun W M=>by have HB:=M.below;exact ⟨by simp_all<;>omega,HB⟩)
   ·skip
    refine Fx.bq [2,1] 12 29 [(39,Z I 1),(41,au #[O a3,O a4])] [] fun Ja=>?_;refine Fx.fC [8,8] 43 [] [(5,#[O a3,O a4])] K2 ?_;refine Fx.part 7 [] [(45,ay (!(k2 == 0))),(13,Z I k2)] [] ?_;refine Fx.splitB (fun H4=>?_) (fun H4=>?_)
    ·skip
     exact Fx.jU (v:=Z I k2) [1] [] (fun W M=>by have HB:=M.below;exact ⟨by simp_all<;>omega,HB⟩)
    ·skip
     refine Fx.bq [2,1] 12 29 [(39,Z I 2),(41,au #[O a5,O a6])] [] fun Aq=>?_;refine Fx.fC [9,9] 43 [] [(6,#[O a5,O a6])] K3 ?_;refine Fx.part 7 [] [(45,ay (!(k3 == 0))),(13,Z I k3)] [] ?_;refine Fx.splitB (fun H5=>?_) (fun H5=>?_)
     ·skip
      exact Fx.jU (v:=Z I k3) [1] [] (fun W M=>by have HB:=M.below;exact ⟨by simp_all<;>omega,HB⟩)
     ·skip
      refine Fx.bq [2,1] 12 29 [(39,Z I 3),(41,au #[O b1,O b2])] [] fun Le=>?_;refine Fx.fC [10,10] 43 [] [(7,#[O b1,O b2])] K4 ?_;refine Fx.part 7 [] [(45,ay (!(k4 == 0))),(13,Z I k4)] [] ?_;refine Fx.splitB (fun H6=>?_) (fun H6=>?_)
      ·skip
       exact Fx.jU (v:=Z I k4) [1] [] (fun W M=>by have HB:=M.below;exact ⟨by simp_all<;>omega,HB⟩)
      ·skip
       refine Fx.bq [2,1] 12 29 [(39,Z I 4),(41,au #[O b3,O b4])] [] fun YI=>?_;refine Fx.fC [11,11] 43 [] [(8,#[O b3,O b4])] K5 ?_;refine Fx.part 7 [] [(45,ay (!(k5 == 0))),(13,Z I k5)] [] ?_;refine Fx.splitB (fun H7=>?_) (fun H7=>?_)
       ·skip
        exact Fx.jU (v:=Z I k5) [1] [] (fun W M=>by have HB:=M.below;exact ⟨by simp_all<;>omega,HB⟩)
       ·skip
        refine Fx.bq [2,1] 12 29 [(39,Z I 5),(41,au #[O b5,O b6])] [] fun Ov=>?_;refine Fx.fC [12,12] 43 [] [(9,#[O b5,O b6])] K6 ?_;refine Fx.part 7 [] [(45,ay (!(k6 == 0))),(13,Z I k6)] [] ?_;refine Fx.splitB (fun H8=>?_) (fun H8=>?_)
        ·skip
         exact Fx.jU (v:=Z I k6) [1] [] (fun W M=>by have HB:=M.below;exact ⟨by simp_all<;>omega,HB⟩)
        ·skip
         refine Fx.bq [2,1] 12 29 [(39,Z I 6),(41,au #[O l1,O l2])] [] fun Kk=>?_;refine Fx.fC [13,13] 43 [] [(10,#[O l1,O l2])] K7 ?_;refine Fx.part 7 [] [(45,ay (!(k7 == 0))),(13,Z I k7)] [] ?_;refine Fx.splitB (fun H9=>?_) (fun H9=>?_)
         ·skip
          exact Fx.jU (v:=Z I k7) [1] [] (fun W M=>by have HB:=M.below;exact ⟨by simp_all<;>omega,HB⟩)
         ·skip
          refine Fx.bq [2,1] 12 29 [(39,Z I 7),(41,au #[O c1,O c2])] [] fun Kj=>?_;refine Fx.fC [14,14] 43 [] [(11,#[O c1,O c2])] K8 ?_;refine Fx.part 7 [] [(45,ay (!(k8 == 0))),(13,Z I k8)] [] ?_;refine Fx.splitB (fun H10=>?_) (fun H10=>?_)
          ·skip
           exact Fx.jU (v:=Z I k8) [1] [] (fun W M=>by have HB:=M.below;exact ⟨by simp_all<;>omega,HB⟩)
          ·skip
           refine Fx.bq [2,2,5,6,1] 15 29 [(39,Z I 8),(50,au #[O l1,O l2,O c1,O c2]),(51,Z I 0),(53,au #[O l1,O l2])] [] fun Gy=>?_;refine Fx.fC [15,15] 56 [] [(12,#[O l1,O l2])] S1 ?_;refine Fx.part 12 [] [(60,ay (!(s2 == 0))),(16,Z I s1),(17,Z I s2)] [] ?_;refine Fx.splitB (fun H11=>?_) (fun H11=>?_)
           ·skip
            exact Fx.jU (v:=Z I s2) [1] [] (fun W M=>by have HB:=M.below;exact ⟨by simp_all<;>omega,HB⟩)
           ·skip
            refine Fx.part 9 [2] [(63,ay (decide (s1≤0)))] [] ?_;refine Fx.splitB (fun H12=>?_) (fun H12=>?_)
            ·skip
             exact Fx.jU (v:=Z I 2) [1] [] (fun W M=>by have HB:=M.below;exact ⟨by simp_all<;>omega,HB⟩)
            ·skip
             refine Fx.bq [2,1] 15 29 [(51,Z I 1),(53,au #[O c1,O c2])] [] fun UM=>?_;refine Fx.fC [16,16] 56 [] [(13,#[O c1,O c2])] S2 ?_;refine Fx.part 12 [] [(60,ay (!(t2 == 0))),(16,Z I t1),(17,Z I t2)] [] ?_;refine Fx.splitB (fun H13=>?_) (fun H13=>?_)
             ·skip
              exact Fx.jU (v:=Z I t2) [1] [] (fun W M=>by have HB:=M.below;exact ⟨by simp_all<;>omega,HB⟩)
             ·skip
              refine Fx.part 9 [2] [(63,ay (decide (t1≤0)))] [] ?_;refine Fx.splitB (fun H14=>?_) (fun H14=>?_)
              ·skip
               exact Fx.jU (v:=Z I 2) [1] [] (fun W M=>by have HB:=M.below;exact ⟨by simp_all<;>omega,HB⟩)
              ·skip
               exact Fx.jU (v:=Z I 0) [2,2] [] (fun W M=>by have HB:=M.below;exact ⟨by simp_all<;>omega,HB⟩)
theorem DX {kind:Int} {a b:light.uF} {l c:Fr} (h:vk kind a b l c=0):1≤kind∧kind≤4:=by
 unfold vk at h
 by_cases h1:kind<1
 ·rw [if_pos h1] at h;exact absurd h zd
 ·by_cases h2:4<kind
  ·rw [if_neg h1,if_pos h2] at h;exact absurd h zd
  ·omega
def Ob (kind:Int) (a b:light.uF) (l c:Fr):(Int × Int) × Int:=aP (0,0) (sM (vk kind a b l c)) fun _=>aP (0,0) (dstE kind a b l c) lC
theorem DN {kind:Int} {a1 a2 a3 a4 a5 a6:ByteArray} {b1 b2 b3 b4 b5 b6:ByteArray} {l1 l2 c1 c2:ByteArray} {bk ba bb bl bc:Nat} {x y k:Int} (hx:bI (Ob kind ⟨⟨a1,a2⟩,⟨a3,a4⟩,⟨a5,a6⟩⟩ ⟨⟨b1,b2⟩,⟨b3,b4⟩,⟨b5,b6⟩⟩ ⟨l1,l2⟩ ⟨c1,c2⟩) (x,y) k) (w:World) (hk:aC w bk #[Z I kind] 3) (ha:aC w ba #[O a1,O a2,O a3,O a4,O a5,O a6] 32) (hb:aC w bb #[O b1,O b2,O b3,O b4,O b5,O b6] 32) (hl:aC w bl #[O l1,O l2] 29) (hc:aC w bc #[O c1,O c2] 29) (ht:gJ.Pow w) (he:whole.Er w) :
  Calls Tryz.prog 29 #[aA (some ⟨bk,0,none⟩),aA (some ⟨ba,0,none⟩),aA (some ⟨bb,0,none⟩),aA (some ⟨bl,0,none⟩),aA (some ⟨bc,0,none⟩)] w (Try w (au #[Z I x,Z I y]) k):=by
 unfold Ob at hx;refine Fx.door Tryz.func29 rfl (.ro hk (.ro ha (.ro hb (.ro hl (.ro hc (.nil w [])))))) ?_;have HR:=hx;refine Fx.bq [] 5 35 [] [] fun gV=>?_;refine Fx.call [3,4,5,6,7] 11 [] [] (fun W M=>gI (kind:=kind) (a1:=a1) (a2:=a2) (a3:=a3) (a4:=a4) (a5:=a5) (a6:=a6) (b1:=b1) (b2:=b2) (b3:=b3) (b4:=b4) (b5:=b5) (b6:=b6) (l1:=l1) (l2:=l2) (c1:=c1) (c2:=c2) _) ?_;obtain ⟨_,k2,EX,HN⟩:=ak HR;refine Fx.aM bR [] 12 [] [] (fun W M=>xB (bI.of EX) _) HN fun h0 HR=>?_;subst h0;have hkd:=DX (congrArg Prod.snd EX);obtain ⟨⟨x3,y3⟩,k3,EX,HN⟩:=ak HR;refine Fx.aM bR [3,4,5,6,7] 18 [] [] (fun W M=>yH (bI.of EX) _ (ht.later M.below) (he.later M.below) hkd.1 hkd.2) HN fun h0 HR=>?_;subst h0;obtain ⟨hk,hv⟩:=HR;cases hk
 exact Fx.iC (cs:=#[Z I x3,Z I y3]) 5 gV [8] [(5,#[Z I x3,Z I y3])] (fun W M=>⟨M.below,.inl ⟨rfl,by cases hv rfl;rfl⟩⟩)
def cl {α:Type} (z:α) (r:α × Int):α × Int:=if r.2=0 then r else (z,r.2)
theorem ae1 {f:FuncId} {args:Array Value} {w:World} {r:(Int × Int) × Int} {x y k:Int} (C:Calls Tryz.prog f args w (G8 w (au #[Z I r.1.1,Z I r.1.2]) (au #[Z I 0,Z I 0]) r.2)) (h:cl (0,0) r=((x,y),k)) :
  Calls Tryz.prog f args w (fun e w'=>e= ah (aD #[au #[Z I x,Z I y],Z I k])∧Below w.heap.size w w'):=C.mono fun _ _ ⟨hb,hh⟩=>by
 unfold cl at h
 rcases hh with ⟨h1,rfl⟩|⟨h1,rfl⟩
 ·rw [if_pos h1] at h;obtain ⟨⟨r1,r2⟩,r3⟩:=r;cases h
  cases h1
  exact ⟨rfl,hb⟩
 ·rw [if_neg h1] at h;cases h
  exact ⟨rfl,hb⟩
theorem ae0 {f:FuncId} {args:Array Value} {w:World} {r:Int × Int} {x k:Int} (C:Calls Tryz.prog f args w (G8 w (Z I r.1) (Z I 0) r.2)) (h:cl 0 r=(x,k)) :
  Calls Tryz.prog f args w (fun e w'=>e= ah (aD #[Z I x,Z I k])∧Below w.heap.size w w'):=C.mono fun _ _ ⟨hb,hh⟩=>by
 unfold cl at h
 rcases hh with ⟨h1,rfl⟩|⟨h1,rfl⟩
 ·rw [if_pos h1] at h;obtain ⟨r1,r3⟩:=r;cases h
  cases h1
  exact ⟨rfl,hb⟩
 ·rw [if_neg h1] at h;cases h
  exact ⟨rfl,hb⟩
def oh (kind:Int) (a b:light.uF) (l c:Fr):(Int × Int) × Int:=cl (0,0) (Ob kind a b l c)
theorem dO {kind:Int} {a1 a2 a3 a4 a5 a6:ByteArray} {b1 b2 b3 b4 b5 b6:ByteArray} {l1 l2 c1 c2:ByteArray} {x y k:Int} (hx:oh kind ⟨⟨a1,a2⟩,⟨a3,a4⟩,⟨a5,a6⟩⟩ ⟨⟨b1,b2⟩,⟨b3,b4⟩,⟨b5,b6⟩⟩ ⟨l1,l2⟩ ⟨c1,c2⟩=((x,y),k)) (w:World) (ht:gJ.Pow w) (he:whole.Er w) :
  Calls Tryz.prog 11 #[Z I kind,au #[O a1,O a2,O a3,O a4,O a5,O a6],au #[O b1,O b2,O b3,O b4,O b5,O b6],au #[O l1,O l2],au #[O c1,O c2]] w (fun e w'=>e= ah (aD #[au #[Z I x,Z I y],Z I k])∧Below w.heap.size w w'):=by
 refine Fx.door Tryz.func11 rfl (.nil w []) ?_;refine Fx.new [] 5 #[Z I kind] 3 [] [] fun gV=>?_;refine Fx.new [] 6 #[O a1,O a2,O a3,O a4,O a5,O a6] 32 [] [] fun iD=>?_;refine Fx.new [] 7 #[O b1,O b2,O b3,O b4,O b5,O b6] 32 [] [] fun iL=>?_;refine Fx.new [] 8 #[O l1,O l2] 29 [] [] fun vo=>?_;refine Fx.new [] 9 #[O c1,O c2] 29 [] [] fun rz=>?_;refine Fx.bq [] 10 35 [] [] fun Ja=>?_;refine Fx.call [] 13 [] [] (fun W M=>ae1 (GH W (fun V hV=>DN ⟨rfl,fun _=>rfl⟩ V ((M.box (b:=gV) 0).later hV) ((M.box (b:=iD) 1).later hV) ((M.box (b:=iL) 2).later hV) ((M.box (b:=vo) 3).later hV) ((M.box (b:=rz) 4).later hV) (ht.later (Bt M.below hV)) (he.later (Bt M.below hV))) (fun args W=>by kernel_rfl)) hx) ?_
 exact Fx.jG 5 Ja [8] [(5,#[Z I x,Z I y])] (fun W M=>⟨rfl,M.below⟩)
end Go.Proofs.differ
namespace Go.Proofs.power
open Go Go.Num Go.gW Go.Proofs.aQ
theorem ME {a b:Int × Int} {x y:Int} (ha:0≤a.1) (h:Bc a b=((x,y),0)):jc x y=true∧0≤x:=by
 unfold Bc at h;split at h
 ·rename_i h0;exact absurd (congrArg Prod.snd h) h0
 ·split at h
  ·rename_i h0;exact absurd (congrArg Prod.snd h) h0
  ·split at h
   ·rename_i h0;cases h;exact ⟨h0,ha⟩
   ·cases h
theorem QD (n p q:Nat) (up:Bool):0≤(u7 n p q up).1:=by
 unfold u7;split
 ·exact Int.natCast_nonneg _
 ·exact Int.le_refl _
theorem Qk (l:List Nat) (up:Bool):0≤(rX l up).1:=by
 unfold rX;split
 ·exact Int.natCast_nonneg _
 ·exact Int.le_refl _
theorem XE {lo hi p q x y:Int} (h:O5 lo hi p q=((x,y),0)):jc x y=true∧0≤x:=by
 unfold O5 at h;split at h
 ·cases h
 ·split at h
  ·cases h
  ·exact ME (QD _ _ _ _) h
theorem TF {l:List (Int × Int)} {x y:Int} (h:zG l=((x,y),0)):jc x y=true∧0≤x:=by
 unfold zG at h;split at h
 ·cases h
 ·split at h
  ·cases h
  ·split at h
   ·cases h
   ·exact ME (Qk _ _) h
end Go.Proofs.power
namespace Go.Proofs.differ
open Go Go.RowKit Go.SW Go.Num Go.Mem Go.Proofs Go.gW
theorem qF {α β:Type} {z:β} {x:α × Int} {f:α→β × Int} {v:β} (h:aP z x f=(v,0)):∃ y,x=(y,0)∧f y=(v,0):=by
 obtain ⟨y,k⟩:=x
 by_cases hk:k=0
 ·subst hk;exact ⟨y,rfl,h⟩
 ·rw [wO hk] at h;cases h
  exact absurd rfl hk
theorem Ik {α:Type} {x v:α} (h:lC x=(v,0)):x=v:=congrArg Prod.fst h
theorem Gu {kind:Int} {a b:light.uF} {l c:Fr} {x y:Int} (h:dstE kind a b l c=((x,y),0)):aQ.jc x y=true∧0≤x:=by
 unfold dstE at h;obtain ⟨p, -, h⟩:=qF h;split at h
 ·obtain ⟨n,hn,h⟩:=qF h;cases Ik h
  exact power.TF hn
 ·obtain ⟨D, -, h⟩:=qF h;unfold Yw at h
  iterate 18 obtain ⟨_, -, h⟩:=qF h
  obtain ⟨r,hr,h⟩:=qF h;cases Ik h
  exact power.XE hr
end Go.Proofs.differ
namespace Go.Proofs.differ
open Go Go.RowKit Go.SW Go.Num Go.Mem Go.Proofs Go.gW Go.Fx
def LB (kind:Int) (a b:light.uF) (l c m:Fr):Int × Int :=
 aP 0 (sM (vk kind a b l c)) fun _=>aP 0 (sM (q9 m)) fun _=>aP 0 (rT m) fun s=>if s<0 then aP 0 (sM 2) fun _=>(0,2) else
  aP 0 (dstE kind a b l c) fun d=>aP 0 (aQ.yu d) fun h=>aP 0 (wh h m) fun p=>if p≤0 then lC 1 else
   aP 0 (aQ.Gb d) fun g=>aP 0 (wh g m) fun q=>if 0<q then lC 0 else lC 2
theorem Ji {kind:Int} {a1 a2 a3 a4 a5 a6:ByteArray} {b1 b2 b3 b4 b5 b6:ByteArray} {l1 l2 c1 c2:ByteArray} {m1 m2:ByteArray} {bk ba bb bl bc bm:Nat} {v k:Int} (hx:bI (LB kind ⟨⟨a1,a2⟩,⟨a3,a4⟩,⟨a5,a6⟩⟩ ⟨⟨b1,b2⟩,⟨b3,b4⟩,⟨b5,b6⟩⟩ ⟨l1,l2⟩ ⟨c1,c2⟩ ⟨m1,m2⟩) v k) (w:World) (hk:aC w bk #[Z I kind] 3) (ha:aC w ba #[O a1,O a2,O a3,O a4,O a5,O a6] 32) (hb:aC w bb #[O b1,O b2,O b3,O b4,O b5,O b6] 32) (hl:aC w bl #[O l1,O l2] 29) (hc:aC w bc #[O c1,O c2] 29) (hm:aC w bm #[O m1,O m2] 29) (ht:gJ.Pow w) (he:whole.Er w) :
  Calls Tryz.prog 37 #[aA (some ⟨bk,0,none⟩),aA (some ⟨ba,0,none⟩),aA (some ⟨bb,0,none⟩),aA (some ⟨bl,0,none⟩),aA (some ⟨bc,0,none⟩),aA (some ⟨bm,0,none⟩)] w (Try w (Z I v) k):=by
 unfold LB at hx;refine Fx.door Tryz.func37 rfl (.ro hk (.ro ha (.ro hb (.ro hl (.ro hc (.ro hm (.nil w []))))))) ?_;have HR:=hx;refine Fx.call [3,4,5,6,7] 13 [] [] (fun W M=>gI (kind:=kind) (a1:=a1) (a2:=a2) (a3:=a3) (a4:=a4) (a5:=a5) (a6:=a6) (b1:=b1) (b2:=b2) (b3:=b3) (b4:=b4) (b5:=b5) (b6:=b6) (l1:=l1) (l2:=l2) (c1:=c1) (c2:=c2) _) ?_;obtain ⟨_,k1,EX,HN⟩:=ak HR;refine Fx.aM bR [] 14 [] [] (fun W M=>xB (bI.of EX) _) HN fun h0 HR=>?_;subst h0;have hkd:=DX (congrArg Prod.snd EX);refine Fx.call [8] 16 [] [] (fun W M=>dD.gI ⟨m1,m2⟩ _) ?_;obtain ⟨_,k2,EX,HN⟩:=ak HR;refine Fx.aM bR [] 17 [] [] (fun W M=>xB (bI.of EX) _) HN fun h0 HR=>?_;subst h0;obtain ⟨v3,k3,EX,HN⟩:=ak HR;refine Fx.call [8] 19 [] [] (fun W M=>Sr EX _) ?_;refine Fx.aM bR [] 22 [] [] (fun W M=>wJ (v:=v3) _) HN fun h0 HR=>?_;subst h0
 refine Fx.part 1 [] [(23,ay (decide (v3<0)))] [] ?_;refine Fx.splitB (fun hf1=>?_) (fun hf1=>?_)
 ·skip
  replace HR:=bI.pos HR (of_decide_eq_true hf1);obtain ⟨_,k5,EX,HN⟩:=ak HR;refine Fx.aM bR [1] 24 [] [] (fun W M=>xB (bI.of EX) _) HN fun h0 HR=>?_;subst h0;exact absurd (show (2:Int)=0 from congrArg Prod.snd EX) zd
 ·skip
  replace HR:=bI.neg HR (of_decide_eq_false hf1);obtain ⟨⟨x6,y6⟩,k6,EX,HN⟩:=ak HR;refine Fx.aM bR [2,3,4,5,6,7] 30 [] [] (fun W M=>yH (bI.of EX) _ (ht.later M.below) (he.later M.below) hkd.1 hkd.2) HN fun h0 HR=>?_;subst h0;have hok:=(Gu EX).1;refine Fx.bq [] 7 35 [] [] fun Aq=>?_;refine Fx.draw [9] [0,5,1,2,3,4,6,7,8,9,10,5011] [] [] [(6,#[Z I x6,Z I y6])] ?_;obtain ⟨⟨s8,t8⟩,k8,EX,HN⟩:=ak HR;refine Fx.call [9,8] 33 [(37,au #[O m1,O m2])] [] (fun W M=>Sv EX _ (ht.later M.below) hok) ?_;refine Fx.aM bR [] 36 [] [] (fun W M=>jD (s:=s8) (t:=t8) _) HN fun h0 HR=>?_;subst h0;obtain ⟨v10,k10,EX,HN⟩:=ak HR;refine Fx.call [] 38 [] [] (fun W M=>UJ EX _) ?_;refine Fx.aM bR [] 41 [] [] (fun W M=>wJ (v:=v10) _) HN fun h0 HR=>?_;subst h0;refine Fx.part 1 [] [(42,ay (decide (v10≤0)))] [] ?_
  refine Fx.splitB (fun hf2=>?_) (fun hf2=>?_)
  ·skip
   replace HR:=bI.pos HR (of_decide_eq_true hf2);obtain ⟨hk,hv⟩:=HR;cases hk
   exact Fx.jU (v:=Z I 1) [1] [] (fun W M=>⟨M.below,.inl ⟨rfl,by cases hv rfl;rfl⟩⟩)
  ·skip
   replace HR:=bI.neg HR (of_decide_eq_false hf2);refine Fx.draw [2] [0,5,1,2,3,4,6,7,8,9,10,5011] [] [] [] ?_;obtain ⟨⟨s12,t12⟩,k12,EX,HN⟩:=ak HR;refine Fx.call [9,8] 45 [(49,au #[O m1,O m2])] [] (fun W M=>YE EX _ (ht.later M.below) hok) ?_;refine Fx.aM bR [] 48 [] [] (fun W M=>jD (s:=s12) (t:=t12) _) HN fun h0 HR=>?_;subst h0;obtain ⟨v14,k14,EX,HN⟩:=ak HR;refine Fx.call [] 50 [] [] (fun W M=>UJ EX _) ?_;refine Fx.aM bR [] 53 [] [] (fun W M=>wJ (v:=v14) _) HN fun h0 HR=>?_;subst h0;refine Fx.part 1 [] [(54,ay (decide (0<v14)))] [] ?_;refine Fx.splitB (fun hf3=>?_) (fun hf3=>?_)
   ·skip
    replace HR:=bI.pos HR (of_decide_eq_true hf3);obtain ⟨hk,hv⟩:=HR;cases hk
    exact Fx.jU (v:=Z I 0) [1] [] (fun W M=>⟨M.below,.inl ⟨rfl,by cases hv rfl;rfl⟩⟩)
   ·skip
    replace HR:=bI.neg HR (of_decide_eq_false hf3);obtain ⟨hk,hv⟩:=HR;cases hk
    exact Fx.jU (v:=Z I 2) [2] [] (fun W M=>⟨M.below,.inl ⟨rfl,by cases hv rfl;rfl⟩⟩)
def vU (kind:Int) (a b:light.uF) (l c m:Fr):Int × Int:=cl 0 (LB kind a b l c m)
theorem iZ {kind:Int} {a1 a2 a3 a4 a5 a6:ByteArray} {b1 b2 b3 b4 b5 b6:ByteArray} {l1 l2 c1 c2:ByteArray} {m1 m2:ByteArray} {v k:Int} (hx:vU kind ⟨⟨a1,a2⟩,⟨a3,a4⟩,⟨a5,a6⟩⟩ ⟨⟨b1,b2⟩,⟨b3,b4⟩,⟨b5,b6⟩⟩ ⟨l1,l2⟩ ⟨c1,c2⟩ ⟨m1,m2⟩=(v,k)) (w:World) (ht:gJ.Pow w) (he:whole.Er w) :
  Calls Tryz.prog 14 #[Z I kind,au #[O a1,O a2,O a3,O a4,O a5,O a6],au #[O b1,O b2,O b3,O b4,O b5,O b6],au #[O l1,O l2],au #[O c1,O c2],au #[O m1,O m2]] w (fun e w'=>e= ah (aD #[Z I v,Z I k])∧Below w.heap.size w w'):=by
 refine Fx.door Tryz.func14 rfl (.nil w []) ?_;refine Fx.new [] 6 #[Z I kind] 3 [] [] fun gV=>?_;refine Fx.new [] 7 #[O a1,O a2,O a3,O a4,O a5,O a6] 32 [] [] fun iD=>?_;refine Fx.new [] 8 #[O b1,O b2,O b3,O b4,O b5,O b6] 32 [] [] fun iL=>?_;refine Fx.new [] 9 #[O l1,O l2] 29 [] [] fun vo=>?_;refine Fx.new [] 10 #[O c1,O c2] 29 [] [] fun rz=>?_;refine Fx.new [] 11 #[O m1,O m2] 29 [] [] fun Ja=>?_;refine Fx.call [] 15 [] [] (fun W M=>ae0 (GA W (fun V hV=>Ji ⟨rfl,fun _=>rfl⟩ V ((M.box (b:=gV) 0).later hV) ((M.box (b:=iD) 1).later hV) ((M.box (b:=iL) 2).later hV) ((M.box (b:=vo) 3).later hV) ((M.box (b:=rz) 4).later hV) ((M.box (b:=Ja) 5).later hV) (ht.later (Bt M.below hV)) (he.later (Bt M.below hV))) (fun args W=>by kernel_rfl)) hx) ?_
 exact Fx.aa4 [] [] (fun W M=>⟨rfl,M.below⟩)
end Go.Proofs.differ
