/- Lemmas for the proof. No condition. -/
import Derived.Test.YtneajphgfdlmhaaGreatDoorRB01
import Derived.Test.YtneajphgfdlmhaaGreatDoorRB04
import Derived.Test.YtneajphgfdlmhaaGreatDoorRB08
import Derived.Test.YtneajphgfdlmhaaGreatDoorRB10
import Derived.Test.YtneajphgfdlmhaaGreatDoorRB12
import Derived.Test.YtneajphgfdlmhaaGreatDoorRB13
import Derived.Test.YtneajphgfdlmhaaGreatDoorRB14
import Derived.Defers
import Derived.Recover
import Derived.Tactics2
import Derived.Deep.RegionHeld
import Derived.ChangeKeysEq
set_option linter.unusedVariables false
set_option linter.unusedSimpArgs false
set_option maxRecDepth 100000
set_option maxHeartbeats 16000000
namespace Go.Proofs.lab
open Go Go.RowKit Go.SW Go.Num Go.Mem Go.Proofs Go.Dec Go.jQ
theorem Cc (er:Int) (w:World):(Instr.typeAssert (.iface 43 (.int .i64 er)) 20 43 true).run Tryz.prog w= .ok (.tuple #[.int .i64 er,.bool true]) w:=by kernel_rfl
theorem mo {w:World} {b:Nat} {cs cs':Array Value} {T:TypeId} (h:ah w b cs T) (e:cs=cs'):ah w b cs' T:=e ▸ h
def caught (er:Int) (rec:Bool):FrameMode:=.panicking [{ v:=.iface 43 (.int .i64 er),recovered:=rec }]
theorem Qn (p q:Addr) (w:World) :
  CallsD Tryz.prog 121 #[.pointer (some p),.pointer (some q)] .returning w fun e u' w'=>e= .returned (.tuple #[])∧u'= .returning∧w'=w:=by
 refine callsD_of_wpS Tryz.func121 rfl fun c₀ cs hu=>?_;simp only [Tryz.ntmps121,List.size_toArray,List.length_cons,List.length_nil,Nat.reduceAdd,Nat.reduceSub,Array.replicate_succ,Array.replicate_zero,List.push_toArray,List.append_toArray,List.nil_append,List.cons_append];refine wpS_seq (wpS_region ?_);generalize hQ:Exit.thenS _ _=Q;simp [wpOpsS,go_sem,recoverD,hu]
 rw [← hQ];clear hQ;refine wpS_of_wp ?_;go_wp2_with fail
 cases c₀
 simp_all [bodyPostS,results,Tryz.results121]
theorem aH1 (b c:Nat) (s1 s2 s3 s4 s5 s6:Int) (z er:Int) (w:World) (hb:ah w b #[.int .i64 s1,.int .i64 s2,.int .i64 s3,.int .i64 s4,.int .i64 s5,.int .i64 s6] 42) (hc:ah w c #[.int .i64 z] 43) :
  CallsD Tryz.prog 121 #[.pointer (some ⟨b,0,none⟩),.pointer (some ⟨c,0,none⟩)] (caught er false) w fun e u' w' =>
   e= .returned (.tuple #[])∧u'=caught er true∧ah w' b #[.int .i64 0,.int .i64 0,.int .i64 0,.int .i64 0,.int .i64 0,.int .i64 0] 42∧ah w' c #[.int .i64 er] 43∧∀ w0:World,w0.heap.size≤b→w0.heap.size≤c→Below w0.heap.size w0 w→Below w0.heap.size w0 w':=by
 unfold caught;refine callsD_of_wpS Tryz.func121 rfl fun c₀ cs hu=>?_;simp only [Tryz.ntmps121,List.size_toArray,List.length_cons,List.length_nil,Nat.reduceAdd,Nat.reduceSub,Array.replicate_succ,Array.replicate_zero,List.push_toArray,List.append_toArray,List.nil_append,List.cons_append];refine wpS_seq (wpS_region ?_);generalize hQ:Exit.thenS _ _=Q;simp [wpOpsS,go_sem,recoverD,hu]
 rw [← hQ];clear hQ;refine wpS_of_wp ?_;have cb:=hb.cell;have fb:=hb.free;have cc:=hc.cell;have fc:=hc.free;have lb:=hb.lt;have lc:=hc.lt;have hne:b≠c:=hb.ne hc zd;have hne2:c≠b:=fun e=>hne e.symm;have hta:=Cc er;obtain ⟨R,HR⟩:∃ R:Ending→FrameMode→World→Prop,Hid (R=fun e u' w'=>e= .returned (.tuple #[])∧u'= .panicking [{ v:=.iface 43 (.int .i64 er),recovered:=true }]∧ah w' b #[.int .i64 0,.int .i64 0,.int .i64 0,.int .i64 0,.int .i64 0,.int .i64 0] 42∧ah w' c #[.int .i64 er] 43∧∀ w0:World,w0.heap.size≤b→w0.heap.size≤c→Below w0.heap.size w0 w→Below w0.heap.size w0 w'):=⟨_,zh rfl⟩
 rw [← HR.out];go_wp2_with fail
 simp only [bodyPostS];refine ⟨trivial,_,rfl,_,results_none rfl _ _ _,?_⟩;rw [HR.out];refine ⟨rfl,rfl,?_,?_,fun w0 h1 h2 h3=>?_⟩
 ·apply mo
  ·exact aH
  ·simp only [List.setIfInBounds_toArray,List.set_cons_zero,List.set_cons_succ]
 ·apply mo
  ·exact aH
  ·simp only [List.setIfInBounds_toArray,List.set_cons_zero,List.set_cons_succ]
 ·exact au
theorem Qm (p q:Addr) (w:World) :
  CallsD Tryz.prog 167 #[.pointer (some p),.pointer (some q)] .returning w fun e u' w'=>e= .returned (.tuple #[])∧u'= .returning∧w'=w:=by
 refine callsD_of_wpS Tryz.func167 rfl fun c₀ cs hu=>?_;simp only [Tryz.ntmps167,List.size_toArray,List.length_cons,List.length_nil,Nat.reduceAdd,Nat.reduceSub,Array.replicate_succ,Array.replicate_zero,List.push_toArray,List.append_toArray,List.nil_append,List.cons_append];refine wpS_seq (wpS_region ?_);generalize hQ:Exit.thenS _ _=Q;simp [wpOpsS,go_sem,recoverD,hu]
 rw [← hQ];clear hQ;refine wpS_of_wp ?_;go_wp2_with fail
 cases c₀
 simp_all [bodyPostS,results,Tryz.results167]
theorem aH0 (b c:Nat) (s1 s2 s3 s4 s5 s6:ByteArray) (z er:Int) (w:World) (hb:ah w b #[.string s1,.string s2,.string s3,.string s4,.string s5,.string s6] 34) (hc:ah w c #[.int .i64 z] 43) :
  CallsD Tryz.prog 167 #[.pointer (some ⟨b,0,none⟩),.pointer (some ⟨c,0,none⟩)] (caught er false) w fun e u' w' =>
   e= .returned (.tuple #[])∧u'=caught er true∧ah w' b #[.string ⟨#[]⟩,.string ⟨#[]⟩,.string ⟨#[]⟩,.string ⟨#[]⟩,.string ⟨#[]⟩,.string ⟨#[]⟩] 34∧ah w' c #[.int .i64 er] 43∧∀ w0:World,w0.heap.size≤b→w0.heap.size≤c→Below w0.heap.size w0 w→Below w0.heap.size w0 w':=by
 unfold caught;refine callsD_of_wpS Tryz.func167 rfl fun c₀ cs hu=>?_;simp only [Tryz.ntmps167,List.size_toArray,List.length_cons,List.length_nil,Nat.reduceAdd,Nat.reduceSub,Array.replicate_succ,Array.replicate_zero,List.push_toArray,List.append_toArray,List.nil_append,List.cons_append];refine wpS_seq (wpS_region ?_);generalize hQ:Exit.thenS _ _=Q;simp [wpOpsS,go_sem,recoverD,hu]
 rw [← hQ];clear hQ;refine wpS_of_wp ?_;have cb:=hb.cell;have fb:=hb.free;have cc:=hc.cell;have fc:=hc.free;have lb:=hb.lt;have lc:=hc.lt;have hne:b≠c:=hb.ne hc zd;have hne2:c≠b:=fun e=>hne e.symm;have hta:=Cc er;obtain ⟨R,HR⟩:∃ R:Ending→FrameMode→World→Prop,Hid (R=fun e u' w'=>e= .returned (.tuple #[])∧u'= .panicking [{ v:=.iface 43 (.int .i64 er),recovered:=true }]∧ah w' b #[.string ⟨#[]⟩,.string ⟨#[]⟩,.string ⟨#[]⟩,.string ⟨#[]⟩,.string ⟨#[]⟩,.string ⟨#[]⟩] 34∧ah w' c #[.int .i64 er] 43∧∀ w0:World,w0.heap.size≤b→w0.heap.size≤c→Below w0.heap.size w0 w→Below w0.heap.size w0 w'):=⟨_,zh rfl⟩
 rw [← HR.out];go_wp2_with fail
 simp only [bodyPostS];refine ⟨trivial,_,rfl,_,results_none rfl _ _ _,?_⟩;rw [HR.out];refine ⟨rfl,rfl,?_,?_,fun w0 h1 h2 h3=>?_⟩
 ·apply mo
  ·exact aH
  ·simp only [List.setIfInBounds_toArray,List.set_cons_zero,List.set_cons_succ]
 ·apply mo
  ·exact aH
  ·simp only [List.setIfInBounds_toArray,List.set_cons_zero,List.set_cons_succ]
 ·exact au
theorem Qo (p q:Addr) (w:World) :
  CallsD Tryz.prog 152 #[.pointer (some p),.pointer (some q)] .returning w fun e u' w'=>e= .returned (.tuple #[])∧u'= .returning∧w'=w:=by
 refine callsD_of_wpS Tryz.func152 rfl fun c₀ cs hu=>?_;simp only [Tryz.ntmps152,List.size_toArray,List.length_cons,List.length_nil,Nat.reduceAdd,Nat.reduceSub,Array.replicate_succ,Array.replicate_zero,List.push_toArray,List.append_toArray,List.nil_append,List.cons_append];refine wpS_seq (wpS_region ?_);generalize hQ:Exit.thenS _ _=Q;simp [wpOpsS,go_sem,recoverD,hu]
 rw [← hQ];clear hQ;refine wpS_of_wp ?_;go_wp2_with fail
 cases c₀
 simp_all [bodyPostS,results,Tryz.results152]
theorem aH2 (b c:Nat) (s1 s2 s3 s4 s5 s6:Int) (z er:Int) (w:World) (hb:ah w b #[.int .i64 s1,.int .i64 s2,.int .i64 s3,.int .i64 s4,.int .i64 s5,.int .i64 s6] 118) (hc:ah w c #[.int .i64 z] 43) :
  CallsD Tryz.prog 152 #[.pointer (some ⟨b,0,none⟩),.pointer (some ⟨c,0,none⟩)] (caught er false) w fun e u' w' =>
   e= .returned (.tuple #[])∧u'=caught er true∧ah w' b #[.int .i64 0,.int .i64 0,.int .i64 0,.int .i64 0,.int .i64 0,.int .i64 0] 118∧ah w' c #[.int .i64 er] 43∧∀ w0:World,w0.heap.size≤b→w0.heap.size≤c→Below w0.heap.size w0 w→Below w0.heap.size w0 w':=by
 unfold caught;refine callsD_of_wpS Tryz.func152 rfl fun c₀ cs hu=>?_;simp only [Tryz.ntmps152,List.size_toArray,List.length_cons,List.length_nil,Nat.reduceAdd,Nat.reduceSub,Array.replicate_succ,Array.replicate_zero,List.push_toArray,List.append_toArray,List.nil_append,List.cons_append];refine wpS_seq (wpS_region ?_);generalize hQ:Exit.thenS _ _=Q;simp [wpOpsS,go_sem,recoverD,hu]
 rw [← hQ];clear hQ;refine wpS_of_wp ?_;have cb:=hb.cell;have fb:=hb.free;have cc:=hc.cell;have fc:=hc.free;have lb:=hb.lt;have lc:=hc.lt;have hne:b≠c:=hb.ne hc zd;have hne2:c≠b:=fun e=>hne e.symm;have hta:=Cc er;obtain ⟨R,HR⟩:∃ R:Ending→FrameMode→World→Prop,Hid (R=fun e u' w'=>e= .returned (.tuple #[])∧u'= .panicking [{ v:=.iface 43 (.int .i64 er),recovered:=true }]∧ah w' b #[.int .i64 0,.int .i64 0,.int .i64 0,.int .i64 0,.int .i64 0,.int .i64 0] 118∧ah w' c #[.int .i64 er] 43∧∀ w0:World,w0.heap.size≤b→w0.heap.size≤c→Below w0.heap.size w0 w→Below w0.heap.size w0 w'):=⟨_,zh rfl⟩
 rw [← HR.out];go_wp2_with fail
 simp only [bodyPostS];refine ⟨trivial,_,rfl,_,results_none rfl _ _ _,?_⟩;rw [HR.out];refine ⟨rfl,rfl,?_,?_,fun w0 h1 h2 h3=>?_⟩
 ·apply mo
  ·exact aH
  ·simp only [List.setIfInBounds_toArray,List.set_cons_zero,List.set_cons_succ]
 ·apply mo
  ·exact aH
  ·simp only [List.setIfInBounds_toArray,List.set_cons_zero,List.set_cons_succ]
 ·exact au
theorem jI {P:Program} {fn:Func} {w:World} {tmps:Array Value} {p q:Tmp} {ty Rk:TypeId} {g g2:Nat} {x y:Value} (h:fn.results=#[.cell p ty,.cell q Rk])
  (hp:tmps.getD p undef= .pointer (some ⟨g,0,none⟩)) (hq:tmps.getD q undef= .pointer (some ⟨g2,0,none⟩)) (h1:(loadVar ty ⟨g,0,none⟩).run P w= .ok x w) (h2:(loadVar Rk ⟨g2,0,none⟩).run P w= .ok y w) :
  (results fn tmps).run P w= .ok (.tuple #[x,y]) w:=by
 have hp':tmps[p]?.getD undef= .pointer (some ⟨g,0,none⟩):=by simpa using hp
 have hq':tmps[q]?.getD undef= .pointer (some ⟨g2,0,none⟩):=by simpa using hq
 simp [results,h,hp',hq',asAddr,h1,h2]
theorem pX {w:World} {c:Nat} {z:Int} (h:ah w c #[.int .i64 z] 43):(loadVar 43 ⟨c,0,none⟩).run Tryz.prog w= .ok (.int .i64 z) w:=by
 have hc:=h.cell 0;simp [go_sem,hc]
theorem ZP {w:World} {b:Nat} {s1 s2 s3 s4 s5 s6:Int} (h:ah w b #[.int .i64 s1,.int .i64 s2,.int .i64 s3,.int .i64 s4,.int .i64 s5,.int .i64 s6] 42):(loadVar 42 ⟨b,0,none⟩).run Tryz.prog w= .ok (.agg #[.int .i64 s1,.int .i64 s2,.int .i64 s3,.int .i64 s4,.int .i64 s5,.int .i64 s6]) w :=
 run_loadVar_row w b 42 42 _ (0,0) _ h Tryz.underlying42 rfl zk
theorem Iu {f:FuncId} {caps:Array Value} {k:Int} {s1 s2 s3 s4 s5 s6:Int} (w:World) (HC:∀ W,Below w.heap.size w W→Calls Tryz.prog f caps W (Try W (.agg #[.int .i64 s1,.int .i64 s2,.int .i64 s3,.int .i64 s4,.int .i64 s5,.int .i64 s6]) k))
  (hf:∀ args W,(callFunc f args).run Tryz.prog W= .ok (.enter f args) W) :
  Calls Tryz.prog 44 #[.func (.func f) #[] caps] w (Om w (.agg #[.int .i64 s1,.int .i64 s2,.int .i64 s3,.int .i64 s4,.int .i64 s5,.int .i64 s6]) (.agg #[.int .i64 0,.int .i64 0,.int .i64 0,.int .i64 0,.int .i64 0,.int .i64 0]) k):=by
 have hmf:∀ (fn:Fn) (first cap:Array Value) (w:World),(Instr.makeFunc fn first cap).run Tryz.prog w= .ok (.func fn first cap) w:=fun _ _ _ _=>rfl;have HCH:=zh HC;clear HC;have hb0:Below w.heap.size w ((w.alloc (.cells #[.int .i64 0,.int .i64 0,.int .i64 0,.int .i64 0,.int .i64 0,.int .i64 0] 42)).alloc (.cells #[.int .i64 0] 43)):=au;obtain ⟨w0,WC⟩:∃ y,(w.alloc (.cells #[.int .i64 0,.int .i64 0,.int .i64 0,.int .i64 0,.int .i64 0,.int .i64 0] 42)).alloc (.cells #[.int .i64 0] 43)=y:=⟨_,rfl⟩;have hx1:ah w0 w.heap.size #[.int .i64 0,.int .i64 0,.int .i64 0,.int .i64 0,.int .i64 0,.int .i64 0] 42:=by rw [← WC];exact aH
 have hx2:ah w0 (w.heap.size+1) #[.int .i64 0] 43:=by rw [← WC];exact aH
 rw [WC] at hb0
 go_enter_defers Tryz.func44,Tryz.ntmps44
 go_wp2_with fail
 refine (HCH.out _ hb0).mono ?_;rintro e w1 ⟨hb1,⟨rfl,rfl⟩|⟨h,rfl⟩⟩
 ·replace hx1:=hx1.later hb1;replace hx2:=hx2.later hb1;have c1:=hx1.cell;have f1:=hx1.free;have c2:=hx2.cell;have f2:=hx2.free;have hne:w.heap.size≠w.heap.size+1:=by omega
  have hx3:ah (((((((w1.setCell ⟨w.heap.size,0,none⟩ (.int .i64 s1)).setCell ⟨w.heap.size,1,none⟩ (.int .i64 s2)).setCell ⟨w.heap.size,2,none⟩ (.int .i64 s3)).setCell ⟨w.heap.size,3,none⟩ (.int .i64 s4)).setCell ⟨w.heap.size,4,none⟩ (.int .i64 s5)).setCell ⟨w.heap.size,5,none⟩ (.int .i64 s6)).setCell ⟨w.heap.size+1,0,none⟩ (.int .i64 0)) w.heap.size #[.int .i64 s1,.int .i64 s2,.int .i64 s3,.int .i64 s4,.int .i64 s5,.int .i64 s6] 42:=by
   apply mo
   ·exact aH
   ·simp only [List.setIfInBounds_toArray,List.set_cons_zero,List.set_cons_succ]
  have hx4:ah (((((((w1.setCell ⟨w.heap.size,0,none⟩ (.int .i64 s1)).setCell ⟨w.heap.size,1,none⟩ (.int .i64 s2)).setCell ⟨w.heap.size,2,none⟩ (.int .i64 s3)).setCell ⟨w.heap.size,3,none⟩ (.int .i64 s4)).setCell ⟨w.heap.size,4,none⟩ (.int .i64 s5)).setCell ⟨w.heap.size,5,none⟩ (.int .i64 s6)).setCell ⟨w.heap.size+1,0,none⟩ (.int .i64 0)) (w.heap.size+1) #[.int .i64 0] 43:=by
   apply mo
   ·exact aH
   ·simp only [List.setIfInBounds_toArray,List.set_cons_zero,List.set_cons_succ]
  have hbw:Below w.heap.size w (((((((w1.setCell ⟨w.heap.size,0,none⟩ (.int .i64 s1)).setCell ⟨w.heap.size,1,none⟩ (.int .i64 s2)).setCell ⟨w.heap.size,2,none⟩ (.int .i64 s3)).setCell ⟨w.heap.size,3,none⟩ (.int .i64 s4)).setCell ⟨w.heap.size,4,none⟩ (.int .i64 s5)).setCell ⟨w.heap.size,5,none⟩ (.int .i64 s6)).setCell ⟨w.heap.size+1,0,none⟩ (.int .i64 0)):=by
   have:=Bt hb0 hb1;exact au
  have HX3:=zh hx3;have HX4:=zh hx4;have HBW:=zh hbw;clear hx3 hx4 hbw WC hx1 hx2 hb0 hb1;go_wp2_with fail
  refine leaves_cons (f:=121) (args:=#[.pointer (some ⟨w.heap.size,0,none⟩),.pointer (some ⟨w.heap.size+1,0,none⟩)]) zi (by simp [go_sem]) ?_;refine (Qn _ _ _).mono ?_;rintro e u' w'' ⟨rfl,rfl,rfl⟩;exact ⟨_,jI rfl rfl rfl (ZP HX3.out) (pX HX4.out),HBW.out,.inl ⟨rfl,rfl⟩⟩
 ·replace hx1:=hx1.later hb1;replace hx2:=hx2.later hb1
  change bodyPostD _ _ _ (Exit.panic [{ v:=.iface 43 (.int .i64 k),recovered:=false }]) _ _
  refine leaves_cons (f:=121) (args:=#[.pointer (some ⟨w.heap.size,0,none⟩),.pointer (some ⟨w.heap.size+1,0,none⟩)]) zi (by simp [go_sem]) ?_;refine (aH1 w.heap.size (w.heap.size+1) _ _ _ _ _ _ _ k _ hx1 hx2).mono ?_;rintro e u' w'' ⟨rfl,rfl,hy1,hy2,hbb⟩;exact ⟨_,jI rfl rfl rfl (ZP hy1) (pX hy2),hbb w (Nat.le_refl _) zo (Bt hb0 hb1),.inr ⟨h,rfl⟩⟩
theorem ZO {w:World} {b:Nat} {s1 s2 s3 s4 s5 s6:ByteArray} (h:ah w b #[.string s1,.string s2,.string s3,.string s4,.string s5,.string s6] 34):(loadVar 34 ⟨b,0,none⟩).run Tryz.prog w= .ok (.agg #[.string s1,.string s2,.string s3,.string s4,.string s5,.string s6]) w :=
 run_loadVar_row w b 34 34 _ (0,0) _ h Tryz.underlying34 rfl zk
theorem yT {f:FuncId} {caps:Array Value} {k:Int} {s1 s2 s3 s4 s5 s6:ByteArray} (w:World) (HC:∀ W,Below w.heap.size w W→Calls Tryz.prog f caps W (Try W (.agg #[.string s1,.string s2,.string s3,.string s4,.string s5,.string s6]) k))
  (hf:∀ args W,(callFunc f args).run Tryz.prog W= .ok (.enter f args) W) :
  Calls Tryz.prog 80 #[.func (.func f) #[] caps] w (Om w (.agg #[.string s1,.string s2,.string s3,.string s4,.string s5,.string s6]) (.agg #[.string ⟨#[]⟩,.string ⟨#[]⟩,.string ⟨#[]⟩,.string ⟨#[]⟩,.string ⟨#[]⟩,.string ⟨#[]⟩]) k):=by
 have hmf:∀ (fn:Fn) (first cap:Array Value) (w:World),(Instr.makeFunc fn first cap).run Tryz.prog w= .ok (.func fn first cap) w:=fun _ _ _ _=>rfl;have HCH:=zh HC;clear HC;have hb0:Below w.heap.size w ((w.alloc (.cells #[.string ⟨#[]⟩,.string ⟨#[]⟩,.string ⟨#[]⟩,.string ⟨#[]⟩,.string ⟨#[]⟩,.string ⟨#[]⟩] 34)).alloc (.cells #[.int .i64 0] 43)):=au;obtain ⟨w0,WC⟩:∃ y,(w.alloc (.cells #[.string ⟨#[]⟩,.string ⟨#[]⟩,.string ⟨#[]⟩,.string ⟨#[]⟩,.string ⟨#[]⟩,.string ⟨#[]⟩] 34)).alloc (.cells #[.int .i64 0] 43)=y:=⟨_,rfl⟩;have hx1:ah w0 w.heap.size #[.string ⟨#[]⟩,.string ⟨#[]⟩,.string ⟨#[]⟩,.string ⟨#[]⟩,.string ⟨#[]⟩,.string ⟨#[]⟩] 34:=by rw [← WC];exact aH
 have hx2:ah w0 (w.heap.size+1) #[.int .i64 0] 43:=by rw [← WC];exact aH
 rw [WC] at hb0
 go_enter_defers Tryz.func80,Tryz.ntmps80
 go_wp2_with fail
 refine (HCH.out _ hb0).mono ?_;rintro e w1 ⟨hb1,⟨rfl,rfl⟩|⟨h,rfl⟩⟩
 ·replace hx1:=hx1.later hb1;replace hx2:=hx2.later hb1;have c1:=hx1.cell;have f1:=hx1.free;have c2:=hx2.cell;have f2:=hx2.free;have hne:w.heap.size≠w.heap.size+1:=by omega
  have hx3:ah (((((((w1.setCell ⟨w.heap.size,0,none⟩ (.string s1)).setCell ⟨w.heap.size,1,none⟩ (.string s2)).setCell ⟨w.heap.size,2,none⟩ (.string s3)).setCell ⟨w.heap.size,3,none⟩ (.string s4)).setCell ⟨w.heap.size,4,none⟩ (.string s5)).setCell ⟨w.heap.size,5,none⟩ (.string s6)).setCell ⟨w.heap.size+1,0,none⟩ (.int .i64 0)) w.heap.size #[.string s1,.string s2,.string s3,.string s4,.string s5,.string s6] 34:=by
   apply mo
   ·exact aH
   ·simp only [List.setIfInBounds_toArray,List.set_cons_zero,List.set_cons_succ]
  have hx4:ah (((((((w1.setCell ⟨w.heap.size,0,none⟩ (.string s1)).setCell ⟨w.heap.size,1,none⟩ (.string s2)).setCell ⟨w.heap.size,2,none⟩ (.string s3)).setCell ⟨w.heap.size,3,none⟩ (.string s4)).setCell ⟨w.heap.size,4,none⟩ (.string s5)).setCell ⟨w.heap.size,5,none⟩ (.string s6)).setCell ⟨w.heap.size+1,0,none⟩ (.int .i64 0)) (w.heap.size+1) #[.int .i64 0] 43:=by
   apply mo
   ·exact aH
   ·simp only [List.setIfInBounds_toArray,List.set_cons_zero,List.set_cons_succ]
  have hbw:Below w.heap.size w (((((((w1.setCell ⟨w.heap.size,0,none⟩ (.string s1)).setCell ⟨w.heap.size,1,none⟩ (.string s2)).setCell ⟨w.heap.size,2,none⟩ (.string s3)).setCell ⟨w.heap.size,3,none⟩ (.string s4)).setCell ⟨w.heap.size,4,none⟩ (.string s5)).setCell ⟨w.heap.size,5,none⟩ (.string s6)).setCell ⟨w.heap.size+1,0,none⟩ (.int .i64 0)):=by
   have:=Bt hb0 hb1;exact au
  have HX3:=zh hx3;have HX4:=zh hx4;have HBW:=zh hbw;clear hx3 hx4 hbw WC hx1 hx2 hb0 hb1;go_wp2_with fail
  refine leaves_cons (f:=167) (args:=#[.pointer (some ⟨w.heap.size,0,none⟩),.pointer (some ⟨w.heap.size+1,0,none⟩)]) zi (by simp [go_sem]) ?_;refine (Qm _ _ _).mono ?_;rintro e u' w'' ⟨rfl,rfl,rfl⟩;exact ⟨_,jI rfl rfl rfl (ZO HX3.out) (pX HX4.out),HBW.out,.inl ⟨rfl,rfl⟩⟩
 ·replace hx1:=hx1.later hb1;replace hx2:=hx2.later hb1
  change bodyPostD _ _ _ (Exit.panic [{ v:=.iface 43 (.int .i64 k),recovered:=false }]) _ _
  refine leaves_cons (f:=167) (args:=#[.pointer (some ⟨w.heap.size,0,none⟩),.pointer (some ⟨w.heap.size+1,0,none⟩)]) zi (by simp [go_sem]) ?_;refine (aH0 w.heap.size (w.heap.size+1) _ _ _ _ _ _ _ k _ hx1 hx2).mono ?_;rintro e u' w'' ⟨rfl,rfl,hy1,hy2,hbb⟩;exact ⟨_,jI rfl rfl rfl (ZO hy1) (pX hy2),hbb w (Nat.le_refl _) zo (Bt hb0 hb1),.inr ⟨h,rfl⟩⟩
theorem ZQ {w:World} {b:Nat} {s1 s2 s3 s4 s5 s6:Int} (h:ah w b #[.int .i64 s1,.int .i64 s2,.int .i64 s3,.int .i64 s4,.int .i64 s5,.int .i64 s6] 118):(loadVar 118 ⟨b,0,none⟩).run Tryz.prog w= .ok (.agg #[.int .i64 s1,.int .i64 s2,.int .i64 s3,.int .i64 s4,.int .i64 s5,.int .i64 s6]) w :=
 run_loadVar_row w b 118 118 _ (0,0) _ h Tryz.underlying118 rfl zk
theorem TP {f:FuncId} {caps:Array Value} {k:Int} {s1 s2 s3 s4 s5 s6:Int} (w:World) (HC:∀ W,Below w.heap.size w W→Calls Tryz.prog f caps W (Try W (.agg #[.int .i64 s1,.int .i64 s2,.int .i64 s3,.int .i64 s4,.int .i64 s5,.int .i64 s6]) k))
  (hf:∀ args W,(callFunc f args).run Tryz.prog W= .ok (.enter f args) W) :
  Calls Tryz.prog 69 #[.func (.func f) #[] caps] w (Om w (.agg #[.int .i64 s1,.int .i64 s2,.int .i64 s3,.int .i64 s4,.int .i64 s5,.int .i64 s6]) (.agg #[.int .i64 0,.int .i64 0,.int .i64 0,.int .i64 0,.int .i64 0,.int .i64 0]) k):=by
 have hmf:∀ (fn:Fn) (first cap:Array Value) (w:World),(Instr.makeFunc fn first cap).run Tryz.prog w= .ok (.func fn first cap) w:=fun _ _ _ _=>rfl;have HCH:=zh HC;clear HC;have hb0:Below w.heap.size w ((w.alloc (.cells #[.int .i64 0,.int .i64 0,.int .i64 0,.int .i64 0,.int .i64 0,.int .i64 0] 118)).alloc (.cells #[.int .i64 0] 43)):=au;obtain ⟨w0,WC⟩:∃ y,(w.alloc (.cells #[.int .i64 0,.int .i64 0,.int .i64 0,.int .i64 0,.int .i64 0,.int .i64 0] 118)).alloc (.cells #[.int .i64 0] 43)=y:=⟨_,rfl⟩;have hx1:ah w0 w.heap.size #[.int .i64 0,.int .i64 0,.int .i64 0,.int .i64 0,.int .i64 0,.int .i64 0] 118:=by rw [← WC];exact aH
 have hx2:ah w0 (w.heap.size+1) #[.int .i64 0] 43:=by rw [← WC];exact aH
 rw [WC] at hb0
 go_enter_defers Tryz.func69,Tryz.ntmps69
 go_wp2_with fail
 refine (HCH.out _ hb0).mono ?_;rintro e w1 ⟨hb1,⟨rfl,rfl⟩|⟨h,rfl⟩⟩
 ·replace hx1:=hx1.later hb1;replace hx2:=hx2.later hb1;have c1:=hx1.cell;have f1:=hx1.free;have c2:=hx2.cell;have f2:=hx2.free;have hne:w.heap.size≠w.heap.size+1:=by omega
  have hx3:ah (((((((w1.setCell ⟨w.heap.size,0,none⟩ (.int .i64 s1)).setCell ⟨w.heap.size,1,none⟩ (.int .i64 s2)).setCell ⟨w.heap.size,2,none⟩ (.int .i64 s3)).setCell ⟨w.heap.size,3,none⟩ (.int .i64 s4)).setCell ⟨w.heap.size,4,none⟩ (.int .i64 s5)).setCell ⟨w.heap.size,5,none⟩ (.int .i64 s6)).setCell ⟨w.heap.size+1,0,none⟩ (.int .i64 0)) w.heap.size #[.int .i64 s1,.int .i64 s2,.int .i64 s3,.int .i64 s4,.int .i64 s5,.int .i64 s6] 118:=by
   apply mo
   ·exact aH
   ·simp only [List.setIfInBounds_toArray,List.set_cons_zero,List.set_cons_succ]
  have hx4:ah (((((((w1.setCell ⟨w.heap.size,0,none⟩ (.int .i64 s1)).setCell ⟨w.heap.size,1,none⟩ (.int .i64 s2)).setCell ⟨w.heap.size,2,none⟩ (.int .i64 s3)).setCell ⟨w.heap.size,3,none⟩ (.int .i64 s4)).setCell ⟨w.heap.size,4,none⟩ (.int .i64 s5)).setCell ⟨w.heap.size,5,none⟩ (.int .i64 s6)).setCell ⟨w.heap.size+1,0,none⟩ (.int .i64 0)) (w.heap.size+1) #[.int .i64 0] 43:=by
   apply mo
   ·exact aH
   ·simp only [List.setIfInBounds_toArray,List.set_cons_zero,List.set_cons_succ]
  have hbw:Below w.heap.size w (((((((w1.setCell ⟨w.heap.size,0,none⟩ (.int .i64 s1)).setCell ⟨w.heap.size,1,none⟩ (.int .i64 s2)).setCell ⟨w.heap.size,2,none⟩ (.int .i64 s3)).setCell ⟨w.heap.size,3,none⟩ (.int .i64 s4)).setCell ⟨w.heap.size,4,none⟩ (.int .i64 s5)).setCell ⟨w.heap.size,5,none⟩ (.int .i64 s6)).setCell ⟨w.heap.size+1,0,none⟩ (.int .i64 0)):=by
   have:=Bt hb0 hb1;exact au
  have HX3:=zh hx3;have HX4:=zh hx4;have HBW:=zh hbw;clear hx3 hx4 hbw WC hx1 hx2 hb0 hb1;go_wp2_with fail
  refine leaves_cons (f:=152) (args:=#[.pointer (some ⟨w.heap.size,0,none⟩),.pointer (some ⟨w.heap.size+1,0,none⟩)]) zi (by simp [go_sem]) ?_;refine (Qo _ _ _).mono ?_;rintro e u' w'' ⟨rfl,rfl,rfl⟩;exact ⟨_,jI rfl rfl rfl (ZQ HX3.out) (pX HX4.out),HBW.out,.inl ⟨rfl,rfl⟩⟩
 ·replace hx1:=hx1.later hb1;replace hx2:=hx2.later hb1
  change bodyPostD _ _ _ (Exit.panic [{ v:=.iface 43 (.int .i64 k),recovered:=false }]) _ _
  refine leaves_cons (f:=152) (args:=#[.pointer (some ⟨w.heap.size,0,none⟩),.pointer (some ⟨w.heap.size+1,0,none⟩)]) zi (by simp [go_sem]) ?_;refine (aH2 w.heap.size (w.heap.size+1) _ _ _ _ _ _ _ k _ hx1 hx2).mono ?_;rintro e u' w'' ⟨rfl,rfl,hy1,hy2,hbb⟩;exact ⟨_,jI rfl rfl rfl (ZQ hy1) (pX hy2),hbb w (Nat.le_refl _) zo (Bt hb0 hb1),.inr ⟨h,rfl⟩⟩
end Go.Proofs.lab
namespace Go.Proofs.lab
open Go Go.RowKit Go.SW Go.Num Go.Mem Go.Proofs Go.jQ
def uU (t:light.mD):Int:=if BS t.x≠0 then BS t.x else if BS t.y≠0 then BS t.y else BS t.z
def vN (b:Int × Int):Int:=if aQ.jF b.1 b.2 then 0 else 30
def tV (l:(Int × Int) × (Int × Int) × (Int × Int)):Int:=if vN l.1≠0 then vN l.1 else if vN l.2.1≠0 then vN l.2.1 else vN l.2.2
theorem pG (s1 s2 s3 s4 s5 s6:ByteArray) (w:World):Calls Tryz.prog 79 #[.agg #[.string s1,.string s2,.string s3,.string s4,.string s5,.string s6]] w (fun e w'=>e= .returned (.int .i64 (uU ⟨⟨s1,s2⟩,⟨s3,s4⟩,⟨s5,s6⟩⟩))∧Below w.heap.size w w'):=by
 have K0:Hid (∀ W,Calls Tryz.prog 166 #[.agg #[.string s1,.string s2]] W (fun e w'=>e= .returned (.int .i64 (BS ⟨s1,s2⟩))∧Below W.heap.size W w')):=zh fun W=>fM.nT ⟨s1,s2⟩ W;have K1:Hid (∀ W,Calls Tryz.prog 166 #[.agg #[.string s3,.string s4]] W (fun e w'=>e= .returned (.int .i64 (BS ⟨s3,s4⟩))∧Below W.heap.size W w')):=zh fun W=>fM.nT ⟨s3,s4⟩ W;have K2:Hid (∀ W,Calls Tryz.prog 166 #[.agg #[.string s5,.string s6]] W (fun e w'=>e= .returned (.int .i64 (BS ⟨s5,s6⟩))∧Below W.heap.size W w')):=zh fun W=>fM.nT ⟨s5,s6⟩ W;have e:uU ⟨⟨s1,s2⟩,⟨s3,s4⟩,⟨s5,s6⟩⟩=if BS ⟨s1,s2⟩≠0 then BS ⟨s1,s2⟩ else if BS ⟨s3,s4⟩≠0 then BS ⟨s3,s4⟩ else BS ⟨s5,s6⟩:=rfl
 rw [e];generalize BS ⟨s1,s2⟩=k0 at *;generalize BS ⟨s3,s4⟩=k1 at *;generalize BS ⟨s5,s6⟩=k2 at *;clear e
 by_cases h0:k0=0
 rotate_left
 ·rw [if_pos h0];have b0:(k0 != 0)=true:=by simp [h0]
  clear h0;go_enter Tryz.func79,Tryz.ntmps79
  have HB:=zh (Below.refl w.heap.size w);go_wp2_with fail
  refine wp_loop_rounds 4 ?_;rw [rounds_succ];have yQ:∀ W,(Instr.index 34 (.agg #[.string s1,.string s2,.string s3,.string s4,.string s5,.string s6]) (.int .i64 0)).run Tryz.prog W= .ok (.agg #[.string s1,.string s2]) W:=fun W=>by kernel_rfl
  go_wp2_with fail
  clear yQ;obtain ⟨w4,EW,hz,X1,X2⟩:=uH w #[.string s1,.string s2,.string s3,.string s4,.string s5,.string s6] 34 #[.string s1,.string s2] 32;rw [EW];clear EW;replace HB:=zh (Bt HB.out hz);clear hz;refine (K0.out _).mono ?_;rintro e u5 ⟨rfl,h⟩;replace X1:=X1.bl h;replace X2:=X2.bl h;replace HB:=zh (Bt HB.out h);clear h;obtain ⟨aO,aN,aP⟩:=X1.clf;obtain ⟨dI,dH,dO⟩:=X2.clf;go_wp2_with fail
  clear aO aN aP dI dH dO;go_ret;exact ⟨rfl,HB.out⟩
 subst h0;rw [if_neg zi]
 by_cases h1:k1=0
 rotate_left
 ·rw [if_pos h1];have b1:(k1 != 0)=true:=by simp [h1]
  clear h1;go_enter Tryz.func79,Tryz.ntmps79
  have HB:=zh (Below.refl w.heap.size w);go_wp2_with fail
  refine wp_loop_rounds 4 ?_;rw [rounds_succ];have yQ:∀ W,(Instr.index 34 (.agg #[.string s1,.string s2,.string s3,.string s4,.string s5,.string s6]) (.int .i64 0)).run Tryz.prog W= .ok (.agg #[.string s1,.string s2]) W:=fun W=>by kernel_rfl
  go_wp2_with fail
  clear yQ;obtain ⟨w4,EW,hz,X1,X2⟩:=uH w #[.string s1,.string s2,.string s3,.string s4,.string s5,.string s6] 34 #[.string s1,.string s2] 32;rw [EW];clear EW;replace HB:=zh (Bt HB.out hz);clear hz;refine (K0.out _).mono ?_;rintro e u5 ⟨rfl,h⟩;replace X1:=X1.bl h;replace X2:=X2.bl h;replace HB:=zh (Bt HB.out h);clear h;obtain ⟨aO,aN,aP⟩:=X1.clf;obtain ⟨dI,dH,dO⟩:=X2.clf;go_wp2_with fail
  clear aO aN aP dI dH dO;rw [rounds_succ];have Ii:∀ W,(Instr.index 34 (.agg #[.string s1,.string s2,.string s3,.string s4,.string s5,.string s6]) (.int .i64 1)).run Tryz.prog W= .ok (.agg #[.string s3,.string s4]) W:=fun W=>by kernel_rfl
  obtain ⟨aO,aN,aP⟩:=X1.clf;obtain ⟨dI,dH,dO⟩:=X2.clf;go_wp2_with fail
  clear aO aN aP dI dH dO;clear Ii;obtain ⟨w8,EW,hz,X6⟩:=pJ u5 #[.string s3,.string s4] 32;rw [EW];clear EW;replace X1:=X1.bl hz;replace X2:=X2.bl hz;replace HB:=zh (Bt HB.out hz);clear hz;obtain ⟨p8,ep⟩:∃ p,u5.heap.size=p:=⟨_,rfl⟩;rw [ep] at X6 ⊢;clear ep;refine (K1.out _).mono ?_;rintro e u9 ⟨rfl,h⟩;replace X1:=X1.bl h;replace X2:=X2.bl h;replace X6:=X6.bl h;replace HB:=zh (Bt HB.out h);clear h;obtain ⟨aO,aN,aP⟩:=X1.clf;obtain ⟨dI,dH,dO⟩:=X2.clf;obtain ⟨ql,pY,qj⟩:=X6.clf;go_wp2_with fail
  clear aO aN aP dI dH dO ql pY qj;go_ret;exact ⟨rfl,HB.out⟩
 subst h1;rw [if_neg zi]
 by_cases h2:k2=0
 ·subst h2;go_enter Tryz.func79,Tryz.ntmps79
  have HB:=zh (Below.refl w.heap.size w);go_wp2_with fail
  refine wp_loop_rounds 4 ?_;rw [rounds_succ];have yQ:∀ W,(Instr.index 34 (.agg #[.string s1,.string s2,.string s3,.string s4,.string s5,.string s6]) (.int .i64 0)).run Tryz.prog W= .ok (.agg #[.string s1,.string s2]) W:=fun W=>by kernel_rfl
  go_wp2_with fail
  clear yQ;obtain ⟨w4,EW,hz,X1,X2⟩:=uH w #[.string s1,.string s2,.string s3,.string s4,.string s5,.string s6] 34 #[.string s1,.string s2] 32;rw [EW];clear EW;replace HB:=zh (Bt HB.out hz);clear hz;refine (K0.out _).mono ?_;rintro e u5 ⟨rfl,h⟩;replace X1:=X1.bl h;replace X2:=X2.bl h;replace HB:=zh (Bt HB.out h);clear h;obtain ⟨aO,aN,aP⟩:=X1.clf;obtain ⟨dI,dH,dO⟩:=X2.clf;go_wp2_with fail
  clear aO aN aP dI dH dO;rw [rounds_succ];have Ii:∀ W,(Instr.index 34 (.agg #[.string s1,.string s2,.string s3,.string s4,.string s5,.string s6]) (.int .i64 1)).run Tryz.prog W= .ok (.agg #[.string s3,.string s4]) W:=fun W=>by kernel_rfl
  obtain ⟨aO,aN,aP⟩:=X1.clf;obtain ⟨dI,dH,dO⟩:=X2.clf;go_wp2_with fail
  clear aO aN aP dI dH dO;clear Ii;obtain ⟨w8,EW,hz,X6⟩:=pJ u5 #[.string s3,.string s4] 32;rw [EW];clear EW;replace X1:=X1.bl hz;replace X2:=X2.bl hz;replace HB:=zh (Bt HB.out hz);clear hz;obtain ⟨p8,ep⟩:∃ p,u5.heap.size=p:=⟨_,rfl⟩;rw [ep] at X6 ⊢;clear ep;refine (K1.out _).mono ?_;rintro e u9 ⟨rfl,h⟩;replace X1:=X1.bl h;replace X2:=X2.bl h;replace X6:=X6.bl h;replace HB:=zh (Bt HB.out h);clear h;obtain ⟨aO,aN,aP⟩:=X1.clf;obtain ⟨dI,dH,dO⟩:=X2.clf;obtain ⟨ql,pY,qj⟩:=X6.clf;go_wp2_with fail
  clear aO aN aP dI dH dO ql pY qj;rw [rounds_succ];have Ij:∀ W,(Instr.index 34 (.agg #[.string s1,.string s2,.string s3,.string s4,.string s5,.string s6]) (.int .i64 2)).run Tryz.prog W= .ok (.agg #[.string s5,.string s6]) W:=fun W=>by kernel_rfl
  obtain ⟨aO,aN,aP⟩:=X1.clf;obtain ⟨dI,dH,dO⟩:=X2.clf;obtain ⟨ql,pY,qj⟩:=X6.clf;go_wp2_with fail
  clear aO aN aP dI dH dO ql pY qj;clear Ij;obtain ⟨w12,EW,hz,xU⟩:=pJ u9 #[.string s5,.string s6] 32;rw [EW];clear EW;replace X1:=X1.bl hz;replace X2:=X2.bl hz;replace X6:=X6.bl hz;replace HB:=zh (Bt HB.out hz);clear hz;obtain ⟨p12,ep⟩:∃ p,u9.heap.size=p:=⟨_,rfl⟩;rw [ep] at xU ⊢;clear ep;refine (K2.out _).mono ?_;rintro e Mi ⟨rfl,h⟩;replace X1:=X1.bl h;replace X2:=X2.bl h;replace X6:=X6.bl h;replace xU:=xU.bl h;replace HB:=zh (Bt HB.out h);clear h;obtain ⟨aO,aN,aP⟩:=X1.clf;obtain ⟨dI,dH,dO⟩:=X2.clf;obtain ⟨ql,pY,qj⟩:=X6.clf;have Jb:=xU.out.cell;have Ig:=xU.out.lt;have IG:=xU.out.free;go_wp2_with fail
  clear aO aN aP dI dH dO ql pY qj Jb Ig IG;rw [rounds_succ];obtain ⟨aO,aN,aP⟩:=X1.clf;obtain ⟨dI,dH,dO⟩:=X2.clf;obtain ⟨ql,pY,qj⟩:=X6.clf;have Jb:=xU.out.cell;have Ig:=xU.out.lt;have IG:=xU.out.free;go_wp2_with fail
  clear aO aN aP dI dH dO ql pY qj Jb Ig IG;go_ret;exact ⟨rfl,HB.out⟩
 ·have b2:(k2 != 0)=true:=by simp [h2]
  clear h2;go_enter Tryz.func79,Tryz.ntmps79
  have HB:=zh (Below.refl w.heap.size w);go_wp2_with fail
  refine wp_loop_rounds 4 ?_;rw [rounds_succ];have yQ:∀ W,(Instr.index 34 (.agg #[.string s1,.string s2,.string s3,.string s4,.string s5,.string s6]) (.int .i64 0)).run Tryz.prog W= .ok (.agg #[.string s1,.string s2]) W:=fun W=>by kernel_rfl
  go_wp2_with fail
  clear yQ;obtain ⟨w4,EW,hz,X1,X2⟩:=uH w #[.string s1,.string s2,.string s3,.string s4,.string s5,.string s6] 34 #[.string s1,.string s2] 32;rw [EW];clear EW;replace HB:=zh (Bt HB.out hz);clear hz;refine (K0.out _).mono ?_;rintro e u5 ⟨rfl,h⟩;replace X1:=X1.bl h;replace X2:=X2.bl h;replace HB:=zh (Bt HB.out h);clear h;obtain ⟨aO,aN,aP⟩:=X1.clf;obtain ⟨dI,dH,dO⟩:=X2.clf;go_wp2_with fail
  clear aO aN aP dI dH dO;rw [rounds_succ];have Ii:∀ W,(Instr.index 34 (.agg #[.string s1,.string s2,.string s3,.string s4,.string s5,.string s6]) (.int .i64 1)).run Tryz.prog W= .ok (.agg #[.string s3,.string s4]) W:=fun W=>by kernel_rfl
  obtain ⟨aO,aN,aP⟩:=X1.clf;obtain ⟨dI,dH,dO⟩:=X2.clf;go_wp2_with fail
  clear aO aN aP dI dH dO;clear Ii;obtain ⟨w8,EW,hz,X6⟩:=pJ u5 #[.string s3,.string s4] 32;rw [EW];clear EW;replace X1:=X1.bl hz;replace X2:=X2.bl hz;replace HB:=zh (Bt HB.out hz);clear hz;obtain ⟨p8,ep⟩:∃ p,u5.heap.size=p:=⟨_,rfl⟩;rw [ep] at X6 ⊢;clear ep;refine (K1.out _).mono ?_;rintro e u9 ⟨rfl,h⟩;replace X1:=X1.bl h;replace X2:=X2.bl h;replace X6:=X6.bl h;replace HB:=zh (Bt HB.out h);clear h;obtain ⟨aO,aN,aP⟩:=X1.clf;obtain ⟨dI,dH,dO⟩:=X2.clf;obtain ⟨ql,pY,qj⟩:=X6.clf;go_wp2_with fail
  clear aO aN aP dI dH dO ql pY qj;rw [rounds_succ];have Ij:∀ W,(Instr.index 34 (.agg #[.string s1,.string s2,.string s3,.string s4,.string s5,.string s6]) (.int .i64 2)).run Tryz.prog W= .ok (.agg #[.string s5,.string s6]) W:=fun W=>by kernel_rfl
  obtain ⟨aO,aN,aP⟩:=X1.clf;obtain ⟨dI,dH,dO⟩:=X2.clf;obtain ⟨ql,pY,qj⟩:=X6.clf;go_wp2_with fail
  clear aO aN aP dI dH dO ql pY qj;clear Ij;obtain ⟨w12,EW,hz,xU⟩:=pJ u9 #[.string s5,.string s6] 32;rw [EW];clear EW;replace X1:=X1.bl hz;replace X2:=X2.bl hz;replace X6:=X6.bl hz;replace HB:=zh (Bt HB.out hz);clear hz;obtain ⟨p12,ep⟩:∃ p,u9.heap.size=p:=⟨_,rfl⟩;rw [ep] at xU ⊢;clear ep;refine (K2.out _).mono ?_;rintro e Mi ⟨rfl,h⟩;replace X1:=X1.bl h;replace X2:=X2.bl h;replace X6:=X6.bl h;replace xU:=xU.bl h;replace HB:=zh (Bt HB.out h);clear h;obtain ⟨aO,aN,aP⟩:=X1.clf;obtain ⟨dI,dH,dO⟩:=X2.clf;obtain ⟨ql,pY,qj⟩:=X6.clf;have Jb:=xU.out.cell;have Ig:=xU.out.lt;have IG:=xU.out.free;go_wp2_with fail
  clear aO aN aP dI dH dO ql pY qj Jb Ig IG;go_ret;exact ⟨rfl,HB.out⟩
theorem Aq (s1 s2 s3 s4 s5 s6:Int) (w:World):Calls Tryz.prog 68 #[.agg #[.int .i64 s1,.int .i64 s2,.int .i64 s3,.int .i64 s4,.int .i64 s5,.int .i64 s6]] w (fun e w'=>e= .returned (.int .i64 (tV ((s1,s2),(s3,s4),(s5,s6))))∧Below w.heap.size w w'):=by
 have K0:Hid (∀ W,Calls Tryz.prog 151 #[.agg #[.int .i64 s1,.int .i64 s2]] W (fun e w'=>e= .returned (.int .i64 (vN (s1,s2)))∧Below W.heap.size W w')):=zh fun W=>by unfold vN;exact aQ.pK s1 s2 W
 have K1:Hid (∀ W,Calls Tryz.prog 151 #[.agg #[.int .i64 s3,.int .i64 s4]] W (fun e w'=>e= .returned (.int .i64 (vN (s3,s4)))∧Below W.heap.size W w')):=zh fun W=>by unfold vN;exact aQ.pK s3 s4 W
 have K2:Hid (∀ W,Calls Tryz.prog 151 #[.agg #[.int .i64 s5,.int .i64 s6]] W (fun e w'=>e= .returned (.int .i64 (vN (s5,s6)))∧Below W.heap.size W w')):=zh fun W=>by unfold vN;exact aQ.pK s5 s6 W
 have e:tV ((s1,s2),(s3,s4),(s5,s6))=if vN (s1,s2)≠0 then vN (s1,s2) else if vN (s3,s4)≠0 then vN (s3,s4) else vN (s5,s6):=rfl
 rw [e];generalize vN (s1,s2)=k0 at *;generalize vN (s3,s4)=k1 at *;generalize vN (s5,s6)=k2 at *;clear e
 by_cases h0:k0=0
 rotate_left
 ·rw [if_pos h0];have b0:(k0 != 0)=true:=by simp [h0]
  clear h0;go_enter Tryz.func68,Tryz.ntmps68
  have HB:=zh (Below.refl w.heap.size w);go_wp2_with fail
  refine wp_loop_rounds 4 ?_;rw [rounds_succ];have yQ:∀ W,(Instr.index 42 (.agg #[.int .i64 s1,.int .i64 s2,.int .i64 s3,.int .i64 s4,.int .i64 s5,.int .i64 s6]) (.int .i64 0)).run Tryz.prog W= .ok (.agg #[.int .i64 s1,.int .i64 s2]) W:=fun W=>by kernel_rfl
  go_wp2_with fail
  clear yQ;obtain ⟨w4,EW,hz,X1,X2⟩:=uH w #[.int .i64 s1,.int .i64 s2,.int .i64 s3,.int .i64 s4,.int .i64 s5,.int .i64 s6] 42 #[.int .i64 s1,.int .i64 s2] 40;rw [EW];clear EW;replace HB:=zh (Bt HB.out hz);clear hz;refine (K0.out _).mono ?_;rintro e u5 ⟨rfl,h⟩;replace X1:=X1.bl h;replace X2:=X2.bl h;replace HB:=zh (Bt HB.out h);clear h;obtain ⟨aO,aN,aP⟩:=X1.clf;obtain ⟨dI,dH,dO⟩:=X2.clf;go_wp2_with fail
  clear aO aN aP dI dH dO;go_ret;exact ⟨rfl,HB.out⟩
 subst h0;rw [if_neg zi]
 by_cases h1:k1=0
 rotate_left
 ·rw [if_pos h1];have b1:(k1 != 0)=true:=by simp [h1]
  clear h1;go_enter Tryz.func68,Tryz.ntmps68
  have HB:=zh (Below.refl w.heap.size w);go_wp2_with fail
  refine wp_loop_rounds 4 ?_;rw [rounds_succ];have yQ:∀ W,(Instr.index 42 (.agg #[.int .i64 s1,.int .i64 s2,.int .i64 s3,.int .i64 s4,.int .i64 s5,.int .i64 s6]) (.int .i64 0)).run Tryz.prog W= .ok (.agg #[.int .i64 s1,.int .i64 s2]) W:=fun W=>by kernel_rfl
  go_wp2_with fail
  clear yQ;obtain ⟨w4,EW,hz,X1,X2⟩:=uH w #[.int .i64 s1,.int .i64 s2,.int .i64 s3,.int .i64 s4,.int .i64 s5,.int .i64 s6] 42 #[.int .i64 s1,.int .i64 s2] 40;rw [EW];clear EW;replace HB:=zh (Bt HB.out hz);clear hz;refine (K0.out _).mono ?_;rintro e u5 ⟨rfl,h⟩;replace X1:=X1.bl h;replace X2:=X2.bl h;replace HB:=zh (Bt HB.out h);clear h;obtain ⟨aO,aN,aP⟩:=X1.clf;obtain ⟨dI,dH,dO⟩:=X2.clf;go_wp2_with fail
  clear aO aN aP dI dH dO;rw [rounds_succ];have Ii:∀ W,(Instr.index 42 (.agg #[.int .i64 s1,.int .i64 s2,.int .i64 s3,.int .i64 s4,.int .i64 s5,.int .i64 s6]) (.int .i64 1)).run Tryz.prog W= .ok (.agg #[.int .i64 s3,.int .i64 s4]) W:=fun W=>by kernel_rfl
  obtain ⟨aO,aN,aP⟩:=X1.clf;obtain ⟨dI,dH,dO⟩:=X2.clf;go_wp2_with fail
  clear aO aN aP dI dH dO;clear Ii;obtain ⟨w8,EW,hz,X6⟩:=pJ u5 #[.int .i64 s3,.int .i64 s4] 40;rw [EW];clear EW;replace X1:=X1.bl hz;replace X2:=X2.bl hz;replace HB:=zh (Bt HB.out hz);clear hz;obtain ⟨p8,ep⟩:∃ p,u5.heap.size=p:=⟨_,rfl⟩;rw [ep] at X6 ⊢;clear ep;refine (K1.out _).mono ?_;rintro e u9 ⟨rfl,h⟩;replace X1:=X1.bl h;replace X2:=X2.bl h;replace X6:=X6.bl h;replace HB:=zh (Bt HB.out h);clear h;obtain ⟨aO,aN,aP⟩:=X1.clf;obtain ⟨dI,dH,dO⟩:=X2.clf;obtain ⟨ql,pY,qj⟩:=X6.clf;go_wp2_with fail
  clear aO aN aP dI dH dO ql pY qj;go_ret;exact ⟨rfl,HB.out⟩
 subst h1;rw [if_neg zi]
 by_cases h2:k2=0
 ·subst h2;go_enter Tryz.func68,Tryz.ntmps68
  have HB:=zh (Below.refl w.heap.size w);go_wp2_with fail
  refine wp_loop_rounds 4 ?_;rw [rounds_succ];have yQ:∀ W,(Instr.index 42 (.agg #[.int .i64 s1,.int .i64 s2,.int .i64 s3,.int .i64 s4,.int .i64 s5,.int .i64 s6]) (.int .i64 0)).run Tryz.prog W= .ok (.agg #[.int .i64 s1,.int .i64 s2]) W:=fun W=>by kernel_rfl
  go_wp2_with fail
  clear yQ;obtain ⟨w4,EW,hz,X1,X2⟩:=uH w #[.int .i64 s1,.int .i64 s2,.int .i64 s3,.int .i64 s4,.int .i64 s5,.int .i64 s6] 42 #[.int .i64 s1,.int .i64 s2] 40;rw [EW];clear EW;replace HB:=zh (Bt HB.out hz);clear hz;refine (K0.out _).mono ?_;rintro e u5 ⟨rfl,h⟩;replace X1:=X1.bl h;replace X2:=X2.bl h;replace HB:=zh (Bt HB.out h);clear h;obtain ⟨aO,aN,aP⟩:=X1.clf;obtain ⟨dI,dH,dO⟩:=X2.clf;go_wp2_with fail
  clear aO aN aP dI dH dO;rw [rounds_succ];have Ii:∀ W,(Instr.index 42 (.agg #[.int .i64 s1,.int .i64 s2,.int .i64 s3,.int .i64 s4,.int .i64 s5,.int .i64 s6]) (.int .i64 1)).run Tryz.prog W= .ok (.agg #[.int .i64 s3,.int .i64 s4]) W:=fun W=>by kernel_rfl
  obtain ⟨aO,aN,aP⟩:=X1.clf;obtain ⟨dI,dH,dO⟩:=X2.clf;go_wp2_with fail
  clear aO aN aP dI dH dO;clear Ii;obtain ⟨w8,EW,hz,X6⟩:=pJ u5 #[.int .i64 s3,.int .i64 s4] 40;rw [EW];clear EW;replace X1:=X1.bl hz;replace X2:=X2.bl hz;replace HB:=zh (Bt HB.out hz);clear hz;obtain ⟨p8,ep⟩:∃ p,u5.heap.size=p:=⟨_,rfl⟩;rw [ep] at X6 ⊢;clear ep;refine (K1.out _).mono ?_;rintro e u9 ⟨rfl,h⟩;replace X1:=X1.bl h;replace X2:=X2.bl h;replace X6:=X6.bl h;replace HB:=zh (Bt HB.out h);clear h;obtain ⟨aO,aN,aP⟩:=X1.clf;obtain ⟨dI,dH,dO⟩:=X2.clf;obtain ⟨ql,pY,qj⟩:=X6.clf;go_wp2_with fail
  clear aO aN aP dI dH dO ql pY qj;rw [rounds_succ];have Ij:∀ W,(Instr.index 42 (.agg #[.int .i64 s1,.int .i64 s2,.int .i64 s3,.int .i64 s4,.int .i64 s5,.int .i64 s6]) (.int .i64 2)).run Tryz.prog W= .ok (.agg #[.int .i64 s5,.int .i64 s6]) W:=fun W=>by kernel_rfl
  obtain ⟨aO,aN,aP⟩:=X1.clf;obtain ⟨dI,dH,dO⟩:=X2.clf;obtain ⟨ql,pY,qj⟩:=X6.clf;go_wp2_with fail
  clear aO aN aP dI dH dO ql pY qj;clear Ij;obtain ⟨w12,EW,hz,xU⟩:=pJ u9 #[.int .i64 s5,.int .i64 s6] 40;rw [EW];clear EW;replace X1:=X1.bl hz;replace X2:=X2.bl hz;replace X6:=X6.bl hz;replace HB:=zh (Bt HB.out hz);clear hz;obtain ⟨p12,ep⟩:∃ p,u9.heap.size=p:=⟨_,rfl⟩;rw [ep] at xU ⊢;clear ep;refine (K2.out _).mono ?_;rintro e Mi ⟨rfl,h⟩;replace X1:=X1.bl h;replace X2:=X2.bl h;replace X6:=X6.bl h;replace xU:=xU.bl h;replace HB:=zh (Bt HB.out h);clear h;obtain ⟨aO,aN,aP⟩:=X1.clf;obtain ⟨dI,dH,dO⟩:=X2.clf;obtain ⟨ql,pY,qj⟩:=X6.clf;have Jb:=xU.out.cell;have Ig:=xU.out.lt;have IG:=xU.out.free;go_wp2_with fail
  clear aO aN aP dI dH dO ql pY qj Jb Ig IG;rw [rounds_succ];obtain ⟨aO,aN,aP⟩:=X1.clf;obtain ⟨dI,dH,dO⟩:=X2.clf;obtain ⟨ql,pY,qj⟩:=X6.clf;have Jb:=xU.out.cell;have Ig:=xU.out.lt;have IG:=xU.out.free;go_wp2_with fail
  clear aO aN aP dI dH dO ql pY qj Jb Ig IG;go_ret;exact ⟨rfl,HB.out⟩
 ·have b2:(k2 != 0)=true:=by simp [h2]
  clear h2;go_enter Tryz.func68,Tryz.ntmps68
  have HB:=zh (Below.refl w.heap.size w);go_wp2_with fail
  refine wp_loop_rounds 4 ?_;rw [rounds_succ];have yQ:∀ W,(Instr.index 42 (.agg #[.int .i64 s1,.int .i64 s2,.int .i64 s3,.int .i64 s4,.int .i64 s5,.int .i64 s6]) (.int .i64 0)).run Tryz.prog W= .ok (.agg #[.int .i64 s1,.int .i64 s2]) W:=fun W=>by kernel_rfl
  go_wp2_with fail
  clear yQ;obtain ⟨w4,EW,hz,X1,X2⟩:=uH w #[.int .i64 s1,.int .i64 s2,.int .i64 s3,.int .i64 s4,.int .i64 s5,.int .i64 s6] 42 #[.int .i64 s1,.int .i64 s2] 40;rw [EW];clear EW;replace HB:=zh (Bt HB.out hz);clear hz;refine (K0.out _).mono ?_;rintro e u5 ⟨rfl,h⟩;replace X1:=X1.bl h;replace X2:=X2.bl h;replace HB:=zh (Bt HB.out h);clear h;obtain ⟨aO,aN,aP⟩:=X1.clf;obtain ⟨dI,dH,dO⟩:=X2.clf;go_wp2_with fail
  clear aO aN aP dI dH dO;rw [rounds_succ];have Ii:∀ W,(Instr.index 42 (.agg #[.int .i64 s1,.int .i64 s2,.int .i64 s3,.int .i64 s4,.int .i64 s5,.int .i64 s6]) (.int .i64 1)).run Tryz.prog W= .ok (.agg #[.int .i64 s3,.int .i64 s4]) W:=fun W=>by kernel_rfl
  obtain ⟨aO,aN,aP⟩:=X1.clf;obtain ⟨dI,dH,dO⟩:=X2.clf;go_wp2_with fail
  clear aO aN aP dI dH dO;clear Ii;obtain ⟨w8,EW,hz,X6⟩:=pJ u5 #[.int .i64 s3,.int .i64 s4] 40;rw [EW];clear EW;replace X1:=X1.bl hz;replace X2:=X2.bl hz;replace HB:=zh (Bt HB.out hz);clear hz;obtain ⟨p8,ep⟩:∃ p,u5.heap.size=p:=⟨_,rfl⟩;rw [ep] at X6 ⊢;clear ep;refine (K1.out _).mono ?_;rintro e u9 ⟨rfl,h⟩;replace X1:=X1.bl h;replace X2:=X2.bl h;replace X6:=X6.bl h;replace HB:=zh (Bt HB.out h);clear h;obtain ⟨aO,aN,aP⟩:=X1.clf;obtain ⟨dI,dH,dO⟩:=X2.clf;obtain ⟨ql,pY,qj⟩:=X6.clf;go_wp2_with fail
  clear aO aN aP dI dH dO ql pY qj;rw [rounds_succ];have Ij:∀ W,(Instr.index 42 (.agg #[.int .i64 s1,.int .i64 s2,.int .i64 s3,.int .i64 s4,.int .i64 s5,.int .i64 s6]) (.int .i64 2)).run Tryz.prog W= .ok (.agg #[.int .i64 s5,.int .i64 s6]) W:=fun W=>by kernel_rfl
  obtain ⟨aO,aN,aP⟩:=X1.clf;obtain ⟨dI,dH,dO⟩:=X2.clf;obtain ⟨ql,pY,qj⟩:=X6.clf;go_wp2_with fail
  clear aO aN aP dI dH dO ql pY qj;clear Ij;obtain ⟨w12,EW,hz,xU⟩:=pJ u9 #[.int .i64 s5,.int .i64 s6] 40;rw [EW];clear EW;replace X1:=X1.bl hz;replace X2:=X2.bl hz;replace X6:=X6.bl hz;replace HB:=zh (Bt HB.out hz);clear hz;obtain ⟨p12,ep⟩:∃ p,u9.heap.size=p:=⟨_,rfl⟩;rw [ep] at xU ⊢;clear ep;refine (K2.out _).mono ?_;rintro e Mi ⟨rfl,h⟩;replace X1:=X1.bl h;replace X2:=X2.bl h;replace X6:=X6.bl h;replace xU:=xU.bl h;replace HB:=zh (Bt HB.out h);clear h;obtain ⟨aO,aN,aP⟩:=X1.clf;obtain ⟨dI,dH,dO⟩:=X2.clf;obtain ⟨ql,pY,qj⟩:=X6.clf;have Jb:=xU.out.cell;have Ig:=xU.out.lt;have IG:=xU.out.free;go_wp2_with fail
  clear aO aN aP dI dH dO ql pY qj Jb Ig IG;go_ret;exact ⟨rfl,HB.out⟩
def Bg (t:light.mD) (w:light.mD):((Int × Int) × (Int × Int) × (Int × Int)) × Int:=if light.Al t≠0 then (z3,light.Al t) else if light.sZ w≠0 then (z3,light.sZ w) else Ld t w
theorem au6 {a1 a2 a3 a4 a5 a6:ByteArray} {b1 b2 b3 b4 b5 b6:ByteArray} {x1 x2 x3 x4 x5 x6:Int} {k:Int} (hx:gD (Bg ⟨⟨a1,a2⟩,⟨a3,a4⟩,⟨a5,a6⟩⟩ ⟨⟨b1,b2⟩,⟨b3,b4⟩,⟨b5,b6⟩⟩) ((x1,x2),(x3,x4),(x5,x6)) k) (w:World) (ht:jw.Pow w) (he:whole.Er w) :
  Calls Tryz.prog 14 #[.agg #[.string a1,.string a2,.string a3,.string a4,.string a5,.string a6],.agg #[.string b1,.string b2,.string b3,.string b4,.string b5,.string b6]] w (Om w (.agg #[.int .i64 x1,.int .i64 x2,.int .i64 x3,.int .i64 x4,.int .i64 x5,.int .i64 x6]) (.agg #[.int .i64 0,.int .i64 0,.int .i64 0,.int .i64 0,.int .i64 0,.int .i64 0]) k):=by
 have Jz:Hid (∀ W,Calls Tryz.prog 42 #[.agg #[.string a1,.string a2,.string a3,.string a4,.string a5,.string a6]] W (fun e w'=>e= .returned (.int .i64 (light.Al ⟨⟨a1,a2⟩,⟨a3,a4⟩,⟨a5,a6⟩⟩))∧Below W.heap.size W w')):=zh fun W=>light.pK ⟨⟨a1,a2⟩,⟨a3,a4⟩,⟨a5,a6⟩⟩ W;have HK2:Hid (∀ W,Calls Tryz.prog 43 #[.agg #[.string b1,.string b2,.string b3,.string b4,.string b5,.string b6]] W (fun e w'=>e= .returned (.int .i64 (light.sZ ⟨⟨b1,b2⟩,⟨b3,b4⟩,⟨b5,b6⟩⟩))∧Below W.heap.size W w')):=zh fun W=>light.Jm ⟨⟨b1,b2⟩,⟨b3,b4⟩,⟨b5,b6⟩⟩ W;have e0:Bg ⟨⟨a1,a2⟩,⟨a3,a4⟩,⟨a5,a6⟩⟩ ⟨⟨b1,b2⟩,⟨b3,b4⟩,⟨b5,b6⟩⟩=if light.Al ⟨⟨a1,a2⟩,⟨a3,a4⟩,⟨a5,a6⟩⟩≠0 then (z3,light.Al ⟨⟨a1,a2⟩,⟨a3,a4⟩,⟨a5,a6⟩⟩) else if light.sZ ⟨⟨b1,b2⟩,⟨b3,b4⟩,⟨b5,b6⟩⟩≠0 then (z3,light.sZ ⟨⟨b1,b2⟩,⟨b3,b4⟩,⟨b5,b6⟩⟩) else Ld ⟨⟨a1,a2⟩,⟨a3,a4⟩,⟨a5,a6⟩⟩ ⟨⟨b1,b2⟩,⟨b3,b4⟩,⟨b5,b6⟩⟩:=rfl
 rw [e0] at hx;have HP:=zh ht;have HE:=zh he;generalize light.Al ⟨⟨a1,a2⟩,⟨a3,a4⟩,⟨a5,a6⟩⟩=c at *;generalize light.sZ ⟨⟨b1,b2⟩,⟨b3,b4⟩,⟨b5,b6⟩⟩=d at *;have HR:=zh hx;clear hx ht he e0;go_enter Tryz.func14,Tryz.ntmps14
 go_wp2_with fail
 obtain ⟨w1,EW,hz,X1,X2,X3⟩:=Jy w #[.string a1,.string a2,.string a3,.string a4,.string a5,.string a6] 34 #[.string b1,.string b2,.string b3,.string b4,.string b5,.string b6] 34 #[.int .i64 0,.int .i64 0,.int .i64 0,.int .i64 0,.int .i64 0,.int .i64 0] 42;rw [EW];clear EW;refine (Jz.out _).mono ?_;rintro e w2 ⟨rfl,h⟩;replace X1:=X1.bl h;replace X2:=X2.bl h;replace X3:=X3.bl h;have HB:=zh (Bt hz h);clear hz h Jz
 by_cases hc:c=0
 rotate_left
 ·obtain ⟨hk, -⟩:=gD.pos HR.out hc;have b1:(c != 0)=true:=by simp [hc]
  have HC:=zh hc;clear hc HR;obtain ⟨c3,l3,f3⟩:=X3.clf;go_wp2_with fail
  have hr:=X3.out;have hb:=HB.out;refine aK rfl rfl aH Tryz.underlying42 rfl zk ?_;have hk2:c=k:=hk;subst hk2;exact ⟨au,.inr ⟨HC.out,rfl⟩⟩
 replace HR:=zh (gD.neg HR.out (by simp [hc]));subst hc;obtain ⟨c2,l2,f2⟩:=X2.clf;go_wp2_with fail
 clear c2 l2 f2;refine (HK2.out _).mono ?_;rintro e w3 ⟨rfl,h⟩;replace X1:=X1.bl h;replace X2:=X2.bl h;replace X3:=X3.bl h;replace HB:=zh (Bt HB.out h);clear h HK2
 by_cases hc:d=0
 rotate_left
 ·obtain ⟨hk, -⟩:=gD.pos HR.out hc;have b1:(d != 0)=true:=by simp [hc]
  have HC:=zh hc;clear hc HR;obtain ⟨c3,l3,f3⟩:=X3.clf;go_wp2_with fail
  have hr:=X3.out;have hb:=HB.out;refine aK rfl rfl aH Tryz.underlying42 rfl zk ?_;have hk2:d=k:=hk;subst hk2;exact ⟨au,.inr ⟨HC.out,rfl⟩⟩
 replace HR:=zh (gD.neg HR.out (by simp [hc]));subst hc;go_wp2_with fail
 refine (Iu (k:=k) w3 (fun W hW=>YS HR.out W (X1.out.later hW) (X2.out.later hW) (HP.out.later (Bt HB.out hW)) (HE.out.later (Bt HB.out hW))) (fun args W=>by rfl)).mono ?_;rintro e w4 ⟨h,hh⟩;replace X3:=X3.bl h;replace HB:=zh (Bt HB.out h);clear h X1 X2;obtain ⟨c3,l3,f3⟩:=X3.clf;have hr:=X3.out;have hb:=HB.out
 rcases hh with ⟨hk,rfl⟩|⟨hk,rfl⟩
 ·have HC:=zh hk;clear hk HR;go_wp2_with fail
  refine aK rfl rfl aH Tryz.underlying42 rfl zk ?_;exact ⟨au,.inl ⟨HC.out,rfl⟩⟩
 ·have HC:=zh hk;clear hk HR;go_wp2_with fail
  refine aK rfl rfl aH Tryz.underlying42 rfl zk ?_;exact ⟨au,.inr ⟨HC.out,rfl⟩⟩
def IC (t:light.mD) (w:light.mD):light.mD × Int:=if uU t≠0 then (t0,uU t) else if light.sZ w≠0 then (t0,light.sZ w) else VT t w
theorem Yq {a1 a2 a3 a4 a5 a6:ByteArray} {b1 b2 b3 b4 b5 b6:ByteArray} {x1 x2 x3 x4 x5 x6:ByteArray} {k:Int} (hx:gD (IC ⟨⟨a1,a2⟩,⟨a3,a4⟩,⟨a5,a6⟩⟩ ⟨⟨b1,b2⟩,⟨b3,b4⟩,⟨b5,b6⟩⟩) ⟨⟨x1,x2⟩,⟨x3,x4⟩,⟨x5,x6⟩⟩ k) (w:World) (ht:jw.Pow w) (he:whole.Er w) :
  Calls Tryz.prog 32 #[.agg #[.string a1,.string a2,.string a3,.string a4,.string a5,.string a6],.agg #[.string b1,.string b2,.string b3,.string b4,.string b5,.string b6]] w (Om w (.agg #[.string x1,.string x2,.string x3,.string x4,.string x5,.string x6]) (.agg #[.string ⟨#[]⟩,.string ⟨#[]⟩,.string ⟨#[]⟩,.string ⟨#[]⟩,.string ⟨#[]⟩,.string ⟨#[]⟩]) k):=by
 have Jz:Hid (∀ W,Calls Tryz.prog 79 #[.agg #[.string a1,.string a2,.string a3,.string a4,.string a5,.string a6]] W (fun e w'=>e= .returned (.int .i64 (uU ⟨⟨a1,a2⟩,⟨a3,a4⟩,⟨a5,a6⟩⟩))∧Below W.heap.size W w')):=zh fun W=>pG a1 a2 a3 a4 a5 a6 W;have HK2:Hid (∀ W,Calls Tryz.prog 43 #[.agg #[.string b1,.string b2,.string b3,.string b4,.string b5,.string b6]] W (fun e w'=>e= .returned (.int .i64 (light.sZ ⟨⟨b1,b2⟩,⟨b3,b4⟩,⟨b5,b6⟩⟩))∧Below W.heap.size W w')):=zh fun W=>light.Jm ⟨⟨b1,b2⟩,⟨b3,b4⟩,⟨b5,b6⟩⟩ W;have e0:IC ⟨⟨a1,a2⟩,⟨a3,a4⟩,⟨a5,a6⟩⟩ ⟨⟨b1,b2⟩,⟨b3,b4⟩,⟨b5,b6⟩⟩=if uU ⟨⟨a1,a2⟩,⟨a3,a4⟩,⟨a5,a6⟩⟩≠0 then (t0,uU ⟨⟨a1,a2⟩,⟨a3,a4⟩,⟨a5,a6⟩⟩) else if light.sZ ⟨⟨b1,b2⟩,⟨b3,b4⟩,⟨b5,b6⟩⟩≠0 then (t0,light.sZ ⟨⟨b1,b2⟩,⟨b3,b4⟩,⟨b5,b6⟩⟩) else VT ⟨⟨a1,a2⟩,⟨a3,a4⟩,⟨a5,a6⟩⟩ ⟨⟨b1,b2⟩,⟨b3,b4⟩,⟨b5,b6⟩⟩:=rfl
 rw [e0] at hx;have HP:=zh ht;have HE:=zh he;generalize uU ⟨⟨a1,a2⟩,⟨a3,a4⟩,⟨a5,a6⟩⟩=c at *;generalize light.sZ ⟨⟨b1,b2⟩,⟨b3,b4⟩,⟨b5,b6⟩⟩=d at *;have HR:=zh hx;clear hx ht he e0;go_enter Tryz.func32,Tryz.ntmps32
 go_wp2_with fail
 obtain ⟨w1,EW,hz,X1,X2,X3⟩:=Jy w #[.string a1,.string a2,.string a3,.string a4,.string a5,.string a6] 34 #[.string b1,.string b2,.string b3,.string b4,.string b5,.string b6] 34 #[.string ⟨#[]⟩,.string ⟨#[]⟩,.string ⟨#[]⟩,.string ⟨#[]⟩,.string ⟨#[]⟩,.string ⟨#[]⟩] 34;rw [EW];clear EW;refine (Jz.out _).mono ?_;rintro e w2 ⟨rfl,h⟩;replace X1:=X1.bl h;replace X2:=X2.bl h;replace X3:=X3.bl h;have HB:=zh (Bt hz h);clear hz h Jz
 by_cases hc:c=0
 rotate_left
 ·obtain ⟨hk, -⟩:=gD.pos HR.out hc;have b1:(c != 0)=true:=by simp [hc]
  have HC:=zh hc;clear hc HR;obtain ⟨c3,l3,f3⟩:=X3.clf;go_wp2_with fail
  have hr:=X3.out;have hb:=HB.out;refine aK rfl rfl aH Tryz.underlying34 rfl zk ?_;have hk2:c=k:=hk;subst hk2;exact ⟨au,.inr ⟨HC.out,rfl⟩⟩
 replace HR:=zh (gD.neg HR.out (by simp [hc]));subst hc;obtain ⟨c2,l2,f2⟩:=X2.clf;go_wp2_with fail
 clear c2 l2 f2;refine (HK2.out _).mono ?_;rintro e w3 ⟨rfl,h⟩;replace X1:=X1.bl h;replace X2:=X2.bl h;replace X3:=X3.bl h;replace HB:=zh (Bt HB.out h);clear h HK2
 by_cases hc:d=0
 rotate_left
 ·obtain ⟨hk, -⟩:=gD.pos HR.out hc;have b1:(d != 0)=true:=by simp [hc]
  have HC:=zh hc;clear hc HR;obtain ⟨c3,l3,f3⟩:=X3.clf;go_wp2_with fail
  have hr:=X3.out;have hb:=HB.out;refine aK rfl rfl aH Tryz.underlying34 rfl zk ?_;have hk2:d=k:=hk;subst hk2;exact ⟨au,.inr ⟨HC.out,rfl⟩⟩
 replace HR:=zh (gD.neg HR.out (by simp [hc]));subst hc;go_wp2_with fail
 refine (yT (k:=k) w3 (fun W hW=>TV HR.out W (X1.out.later hW) (X2.out.later hW) (HP.out.later (Bt HB.out hW))) (fun args W=>by rfl)).mono ?_;rintro e w4 ⟨h,hh⟩;replace X3:=X3.bl h;replace HB:=zh (Bt HB.out h);clear h X1 X2;obtain ⟨c3,l3,f3⟩:=X3.clf;have hr:=X3.out;have hb:=HB.out
 rcases hh with ⟨hk,rfl⟩|⟨hk,rfl⟩
 ·have HC:=zh hk;clear hk HR;go_wp2_with fail
  refine aK rfl rfl aH Tryz.underlying34 rfl zk ?_;exact ⟨au,.inl ⟨HC.out,rfl⟩⟩
 ·have HC:=zh hk;clear hk HR;go_wp2_with fail
  refine aK rfl rfl aH Tryz.underlying34 rfl zk ?_;exact ⟨au,.inr ⟨HC.out,rfl⟩⟩
def Jc (t:(Int × Int) × (Int × Int) × (Int × Int)) (w:light.mD):((Int × Int) × (Int × Int) × (Int × Int)) × Int:=if tV t≠0 then (z3,tV t) else if light.sZ w≠0 then (z3,light.sZ w) else as6 t.1 t.2.1 t.2.2 w
theorem aM2 {a1 a2 a3 a4 a5 a6:Int} {b1 b2 b3 b4 b5 b6:ByteArray} {x1 x2 x3 x4 x5 x6:Int} {k:Int} (hx:gD (Jc ((a1,a2),(a3,a4),(a5,a6)) ⟨⟨b1,b2⟩,⟨b3,b4⟩,⟨b5,b6⟩⟩) ((x1,x2),(x3,x4),(x5,x6)) k) (w:World) (ht:jw.Pow w) (he:whole.Er w) :
  Calls Tryz.prog 34 #[.agg #[.int .i64 a1,.int .i64 a2,.int .i64 a3,.int .i64 a4,.int .i64 a5,.int .i64 a6],.agg #[.string b1,.string b2,.string b3,.string b4,.string b5,.string b6]] w (Om w (.agg #[.int .i64 x1,.int .i64 x2,.int .i64 x3,.int .i64 x4,.int .i64 x5,.int .i64 x6]) (.agg #[.int .i64 0,.int .i64 0,.int .i64 0,.int .i64 0,.int .i64 0,.int .i64 0]) k):=by
 have Jz:Hid (∀ W,Calls Tryz.prog 68 #[.agg #[.int .i64 a1,.int .i64 a2,.int .i64 a3,.int .i64 a4,.int .i64 a5,.int .i64 a6]] W (fun e w'=>e= .returned (.int .i64 (tV ((a1,a2),(a3,a4),(a5,a6))))∧Below W.heap.size W w')):=zh fun W=>Aq a1 a2 a3 a4 a5 a6 W;have HK2:Hid (∀ W,Calls Tryz.prog 43 #[.agg #[.string b1,.string b2,.string b3,.string b4,.string b5,.string b6]] W (fun e w'=>e= .returned (.int .i64 (light.sZ ⟨⟨b1,b2⟩,⟨b3,b4⟩,⟨b5,b6⟩⟩))∧Below W.heap.size W w')):=zh fun W=>light.Jm ⟨⟨b1,b2⟩,⟨b3,b4⟩,⟨b5,b6⟩⟩ W;have e0:Jc ((a1,a2),(a3,a4),(a5,a6)) ⟨⟨b1,b2⟩,⟨b3,b4⟩,⟨b5,b6⟩⟩=if tV ((a1,a2),(a3,a4),(a5,a6))≠0 then (z3,tV ((a1,a2),(a3,a4),(a5,a6))) else if light.sZ ⟨⟨b1,b2⟩,⟨b3,b4⟩,⟨b5,b6⟩⟩≠0 then (z3,light.sZ ⟨⟨b1,b2⟩,⟨b3,b4⟩,⟨b5,b6⟩⟩) else as6 (a1,a2) (a3,a4) (a5,a6) ⟨⟨b1,b2⟩,⟨b3,b4⟩,⟨b5,b6⟩⟩:=rfl
 rw [e0] at hx;have HP:=zh ht;have HE:=zh he;generalize tV ((a1,a2),(a3,a4),(a5,a6))=c at *;generalize light.sZ ⟨⟨b1,b2⟩,⟨b3,b4⟩,⟨b5,b6⟩⟩=d at *;have HR:=zh hx;clear hx ht he e0;go_enter Tryz.func34,Tryz.ntmps34
 go_wp2_with fail
 obtain ⟨w1,EW,hz,X1,X2,X3⟩:=Jy w #[.int .i64 a1,.int .i64 a2,.int .i64 a3,.int .i64 a4,.int .i64 a5,.int .i64 a6] 42 #[.string b1,.string b2,.string b3,.string b4,.string b5,.string b6] 34 #[.int .i64 0,.int .i64 0,.int .i64 0,.int .i64 0,.int .i64 0,.int .i64 0] 42;rw [EW];clear EW;refine (Jz.out _).mono ?_;rintro e w2 ⟨rfl,h⟩;replace X1:=X1.bl h;replace X2:=X2.bl h;replace X3:=X3.bl h;have HB:=zh (Bt hz h);clear hz h Jz
 by_cases hc:c=0
 rotate_left
 ·obtain ⟨hk, -⟩:=gD.pos HR.out hc;have b1:(c != 0)=true:=by simp [hc]
  have HC:=zh hc;clear hc HR;obtain ⟨c3,l3,f3⟩:=X3.clf;go_wp2_with fail
  have hr:=X3.out;have hb:=HB.out;refine aK rfl rfl aH Tryz.underlying42 rfl zk ?_;have hk2:c=k:=hk;subst hk2;exact ⟨au,.inr ⟨HC.out,rfl⟩⟩
 replace HR:=zh (gD.neg HR.out (by simp [hc]));subst hc;obtain ⟨c2,l2,f2⟩:=X2.clf;go_wp2_with fail
 clear c2 l2 f2;refine (HK2.out _).mono ?_;rintro e w3 ⟨rfl,h⟩;replace X1:=X1.bl h;replace X2:=X2.bl h;replace X3:=X3.bl h;replace HB:=zh (Bt HB.out h);clear h HK2
 by_cases hc:d=0
 rotate_left
 ·obtain ⟨hk, -⟩:=gD.pos HR.out hc;have b1:(d != 0)=true:=by simp [hc]
  have HC:=zh hc;clear hc HR;obtain ⟨c3,l3,f3⟩:=X3.clf;go_wp2_with fail
  have hr:=X3.out;have hb:=HB.out;refine aK rfl rfl aH Tryz.underlying42 rfl zk ?_;have hk2:d=k:=hk;subst hk2;exact ⟨au,.inr ⟨HC.out,rfl⟩⟩
 replace HR:=zh (gD.neg HR.out (by simp [hc]));subst hc;go_wp2_with fail
 refine (Iu (k:=k) w3 (fun W hW=>as8 HR.out W (X1.out.later hW) (X2.out.later hW) (HP.out.later (Bt HB.out hW)) (HE.out.later (Bt HB.out hW))) (fun args W=>by rfl)).mono ?_;rintro e w4 ⟨h,hh⟩;replace X3:=X3.bl h;replace HB:=zh (Bt HB.out h);clear h X1 X2;obtain ⟨c3,l3,f3⟩:=X3.clf;have hr:=X3.out;have hb:=HB.out
 rcases hh with ⟨hk,rfl⟩|⟨hk,rfl⟩
 ·have HC:=zh hk;clear hk HR;go_wp2_with fail
  refine aK rfl rfl aH Tryz.underlying42 rfl zk ?_;exact ⟨au,.inl ⟨HC.out,rfl⟩⟩
 ·have HC:=zh hk;clear hk HR;go_wp2_with fail
  refine aK rfl rfl aH Tryz.underlying42 rfl zk ?_;exact ⟨au,.inr ⟨HC.out,rfl⟩⟩
def aF7 (t:light.mD):light.mD × Int:=if uU t≠0 then (t0,uU t) else encI t
theorem ai2 {a1 a2 a3 a4 a5 a6 x1 x2 x3 x4 x5 x6:ByteArray} {k:Int} (hx:gD (aF7 ⟨⟨a1,a2⟩,⟨a3,a4⟩,⟨a5,a6⟩⟩) ⟨⟨x1,x2⟩,⟨x3,x4⟩,⟨x5,x6⟩⟩ k) (w:World) (ht:jw.Pow w) :
  Calls Tryz.prog 25 #[.agg #[.string a1,.string a2,.string a3,.string a4,.string a5,.string a6]] w (Om w (.agg #[.string x1,.string x2,.string x3,.string x4,.string x5,.string x6]) (.agg #[.string ⟨#[]⟩,.string ⟨#[]⟩,.string ⟨#[]⟩,.string ⟨#[]⟩,.string ⟨#[]⟩,.string ⟨#[]⟩]) k):=by
 have Jz:Hid (∀ W,Calls Tryz.prog 79 #[.agg #[.string a1,.string a2,.string a3,.string a4,.string a5,.string a6]] W (fun e w'=>e= .returned (.int .i64 (uU ⟨⟨a1,a2⟩,⟨a3,a4⟩,⟨a5,a6⟩⟩))∧Below W.heap.size W w')):=zh fun W=>pG a1 a2 a3 a4 a5 a6 W;have e0:aF7 ⟨⟨a1,a2⟩,⟨a3,a4⟩,⟨a5,a6⟩⟩=if uU ⟨⟨a1,a2⟩,⟨a3,a4⟩,⟨a5,a6⟩⟩≠0 then (t0,uU ⟨⟨a1,a2⟩,⟨a3,a4⟩,⟨a5,a6⟩⟩) else encI ⟨⟨a1,a2⟩,⟨a3,a4⟩,⟨a5,a6⟩⟩:=rfl
 rw [e0] at hx;have HP:=zh ht;generalize uU ⟨⟨a1,a2⟩,⟨a3,a4⟩,⟨a5,a6⟩⟩=c at *;have HR:=zh hx;clear hx ht e0;go_enter Tryz.func25,Tryz.ntmps25
 go_wp2_with fail
 obtain ⟨w1,EW,hz,X1,X3⟩:=uH w #[.string a1,.string a2,.string a3,.string a4,.string a5,.string a6] 34 #[.string ⟨#[]⟩,.string ⟨#[]⟩,.string ⟨#[]⟩,.string ⟨#[]⟩,.string ⟨#[]⟩,.string ⟨#[]⟩] 34;rw [EW];clear EW;refine (Jz.out _).mono ?_;rintro e w2 ⟨rfl,h⟩;replace X1:=X1.bl h;replace X3:=X3.bl h;have HB:=zh (Bt hz h);clear hz h Jz
 by_cases hc:c=0
 rotate_left
 ·obtain ⟨hk, -⟩:=gD.pos HR.out hc;have b1:(c != 0)=true:=by simp [hc]
  have HC:=zh hc;clear hc HR;obtain ⟨c3,l3,f3⟩:=X3.clf;go_wp2_with fail
  have hr:=X3.out;have hb:=HB.out;refine aK rfl rfl aH Tryz.underlying34 rfl zk ?_;have hk2:c=k:=hk;subst hk2;exact ⟨au,.inr ⟨HC.out,rfl⟩⟩
 replace HR:=zh (gD.neg HR.out (by simp [hc]));subst hc;go_wp2_with fail
 refine (yT (k:=k) w2 (fun W hW=>aF8 HR.out W (X1.out.later hW) (HP.out.later (Bt HB.out hW))) (fun args W=>by rfl)).mono ?_;rintro e w4 ⟨h,hh⟩;replace X3:=X3.bl h;replace HB:=zh (Bt HB.out h);clear h X1;obtain ⟨c3,l3,f3⟩:=X3.clf;have hr:=X3.out;have hb:=HB.out
 rcases hh with ⟨hk,rfl⟩|⟨hk,rfl⟩
 ·have HC:=zh hk;clear hk HR;go_wp2_with fail
  refine aK rfl rfl aH Tryz.underlying34 rfl zk ?_;exact ⟨au,.inl ⟨HC.out,rfl⟩⟩
 ·have HC:=zh hk;clear hk HR;go_wp2_with fail
  refine aK rfl rfl aH Tryz.underlying34 rfl zk ?_;exact ⟨au,.inr ⟨HC.out,rfl⟩⟩
def aG2 (t:light.mD):light.mD × Int:=if uU t≠0 then (t0,uU t) else ar2 t
theorem ai4 {a1 a2 a3 a4 a5 a6 x1 x2 x3 x4 x5 x6:ByteArray} {k:Int} (hx:gD (aG2 ⟨⟨a1,a2⟩,⟨a3,a4⟩,⟨a5,a6⟩⟩) ⟨⟨x1,x2⟩,⟨x3,x4⟩,⟨x5,x6⟩⟩ k) (w:World) (ht:jw.Pow w) :
  Calls Tryz.prog 27 #[.agg #[.string a1,.string a2,.string a3,.string a4,.string a5,.string a6]] w (Om w (.agg #[.string x1,.string x2,.string x3,.string x4,.string x5,.string x6]) (.agg #[.string ⟨#[]⟩,.string ⟨#[]⟩,.string ⟨#[]⟩,.string ⟨#[]⟩,.string ⟨#[]⟩,.string ⟨#[]⟩]) k):=by
 have Jz:Hid (∀ W,Calls Tryz.prog 79 #[.agg #[.string a1,.string a2,.string a3,.string a4,.string a5,.string a6]] W (fun e w'=>e= .returned (.int .i64 (uU ⟨⟨a1,a2⟩,⟨a3,a4⟩,⟨a5,a6⟩⟩))∧Below W.heap.size W w')):=zh fun W=>pG a1 a2 a3 a4 a5 a6 W;have e0:aG2 ⟨⟨a1,a2⟩,⟨a3,a4⟩,⟨a5,a6⟩⟩=if uU ⟨⟨a1,a2⟩,⟨a3,a4⟩,⟨a5,a6⟩⟩≠0 then (t0,uU ⟨⟨a1,a2⟩,⟨a3,a4⟩,⟨a5,a6⟩⟩) else ar2 ⟨⟨a1,a2⟩,⟨a3,a4⟩,⟨a5,a6⟩⟩:=rfl
 rw [e0] at hx;have HP:=zh ht;generalize uU ⟨⟨a1,a2⟩,⟨a3,a4⟩,⟨a5,a6⟩⟩=c at *;have HR:=zh hx;clear hx ht e0;go_enter Tryz.func27,Tryz.ntmps27
 go_wp2_with fail
 obtain ⟨w1,EW,hz,X1,X3⟩:=uH w #[.string a1,.string a2,.string a3,.string a4,.string a5,.string a6] 34 #[.string ⟨#[]⟩,.string ⟨#[]⟩,.string ⟨#[]⟩,.string ⟨#[]⟩,.string ⟨#[]⟩,.string ⟨#[]⟩] 34;rw [EW];clear EW;refine (Jz.out _).mono ?_;rintro e w2 ⟨rfl,h⟩;replace X1:=X1.bl h;replace X3:=X3.bl h;have HB:=zh (Bt hz h);clear hz h Jz
 by_cases hc:c=0
 rotate_left
 ·obtain ⟨hk, -⟩:=gD.pos HR.out hc;have b1:(c != 0)=true:=by simp [hc]
  have HC:=zh hc;clear hc HR;obtain ⟨c3,l3,f3⟩:=X3.clf;go_wp2_with fail
  have hr:=X3.out;have hb:=HB.out;refine aK rfl rfl aH Tryz.underlying34 rfl zk ?_;have hk2:c=k:=hk;subst hk2;exact ⟨au,.inr ⟨HC.out,rfl⟩⟩
 replace HR:=zh (gD.neg HR.out (by simp [hc]));subst hc;go_wp2_with fail
 refine (yT (k:=k) w2 (fun W hW=>aG3 HR.out W (X1.out.later hW) (HP.out.later (Bt HB.out hW))) (fun args W=>by rfl)).mono ?_;rintro e w4 ⟨h,hh⟩;replace X3:=X3.bl h;replace HB:=zh (Bt HB.out h);clear h X1;obtain ⟨c3,l3,f3⟩:=X3.clf;have hr:=X3.out;have hb:=HB.out
 rcases hh with ⟨hk,rfl⟩|⟨hk,rfl⟩
 ·have HC:=zh hk;clear hk HR;go_wp2_with fail
  refine aK rfl rfl aH Tryz.underlying34 rfl zk ?_;exact ⟨au,.inl ⟨HC.out,rfl⟩⟩
 ·have HC:=zh hk;clear hk HR;go_wp2_with fail
  refine aK rfl rfl aH Tryz.underlying34 rfl zk ?_;exact ⟨au,.inr ⟨HC.out,rfl⟩⟩
def Ya (a b:Int × Int):Bool:=decide (a.1=b.1)&&decide (a.2=b.2)
theorem ay3 (a b c d:Int) (W:World):(binOp .eql 40 (.agg #[.int .i64 a,.int .i64 b]) (.agg #[.int .i64 c,.int .i64 d])).run Tryz.prog W= .ok (.bool (Ya (a,b) (c,d))) W:=by
 unfold Ya
 by_cases h1:a=c
 ·by_cases h2:b=d
  ·subst h1;subst h2;go_simp
  ·subst h1;go_simp
 ·go_simp
def Vl (b1 b2:Int × Int):((Int × Int) × (Int × Int) × (Int × Int)) × Int :=
 aU z3 (aQ.Zr (0*1000000000000)) fun zero=>cond (Ya b1 zero&&Ya b2 zero) (aU z3 (aQ.Zr (1*1000000000000)) fun one=>vF (zero,one,zero))
  (aU z3 (power.an1 [b1,b2]) fun c=>if c.1=0 then (z3,7) else aU z3 (Vm b1 c) fun p=>aU z3 (Vm b2 c) fun q=>vF (c,p,q))
theorem Zv {l1 l2 l3 l4 l5 l6 x1 x2 x3 x4 x5 x6 k:Int} {p:Nat} (hx:gD (Vl (l3,l4) (l5,l6)) ((x1,x2),(x3,x4),(x5,x6)) k) (w:World)
  (hp:ah w p #[.int .i64 l1,.int .i64 l2,.int .i64 l3,.int .i64 l4,.int .i64 l5,.int .i64 l6] 42) (ht:jw.Pow w) (he:whole.Er w) :
  Calls Tryz.prog 70 #[.pointer (some ⟨p,0,none⟩)] w (Try w (.agg #[.int .i64 x1,.int .i64 x2,.int .i64 x3,.int .i64 x4,.int .i64 x5,.int .i64 x6]) k):=by
 have HR:=zh hx;have HP:=zh ht;have HE:=zh he;have XP:=zh hp;clear hx ht he hp;unfold Vl at HR;go_enter Tryz.func70,Tryz.ntmps70
 have HB:=zh (Below.refl w.heap.size w);have aZ:=XP.out.cell;have aX:=XP.out.lt;have aY:=XP.out.free;go_wp2_with fail
 clear aZ aX aY;obtain ⟨w2,EW,hz,X1⟩:=pJ w #[.int .i64 0,.int .i64 0,.int .i64 0,.int .i64 0,.int .i64 0,.int .i64 0] 118;rw [EW];clear EW;replace XP:=XP.bl hz;replace HB:=zh (Bt HB.out hz);clear hz;obtain ⟨⟨x3,y3⟩,k3,EX,HN⟩:=aD HR.out;refine (DJ (gD.of EX) _).mono ?_;rintro e u3 H;obtain ⟨h,⟨hk,rfl,HR2⟩|⟨hk,rfl⟩⟩:=aF H HN
 rotate_left
 ·exact ⟨rfl,Bt HB.out h,.inr ⟨hk,rfl⟩⟩
 clear H HN EX;subst hk;replace HR:=zh HR2;clear HR2;replace XP:=XP.bl h;replace X1:=X1.bl h;replace HB:=zh (Bt HB.out h);clear h;have hq1:=ay3 l3 l4 x3 y3;have hq2:=ay3 l5 l6 x3 y3;obtain ⟨f1,e1⟩:∃ f,Ya (l3,l4) (x3,y3)=f:=⟨_,rfl⟩;obtain ⟨f2,e2⟩:∃ f,Ya (l5,l6) (x3,y3)=f:=⟨_,rfl⟩;rw [e1] at hq1;rw [e2] at hq2;have HC:Hid (gD (cond (f1&&f2) _ _) _ _):=zh (by have h:=HR.out;simp only [e1,e2] at h;exact h);clear HR e1 e2;have hd:f1=false∨(f1=true∧f2=false)∨(f1=true∧f2=true):=(by cases f1<;>cases f2<;>simp);rcases hd with rfl|⟨rfl,rfl⟩|⟨rfl,rfl⟩
 ·skip
  have HR:=zh (gD.cond_false HC.out);clear HC;have aZ:=XP.out.cell;have aX:=XP.out.lt;have aY:=XP.out.free;obtain ⟨aO,aN,aP⟩:=X1.clf;go_wp2_with fail
  clear aZ aX aY aO aN aP;obtain ⟨w6,EW,hz,X4,X5⟩:=uH u3 #[.int .i64 x3,.int .i64 y3] 40 #[.int .i64 l3,.int .i64 l4,.int .i64 l5,.int .i64 l6] 40;rw [EW];clear EW;replace XP:=XP.bl hz;replace X1:=X1.bl hz;replace HB:=zh (Bt HB.out hz);clear hz;obtain ⟨p6,ep⟩:∃ p,u3.heap.size=p:=⟨_,rfl⟩;rw [ep] at X4 X5 ⊢;clear ep;obtain ⟨⟨x7,y7⟩,k7,EX,HN⟩:=aD HR.out;refine (af2 EX _ X5.out (HP.out.later HB.out) (HE.out.later HB.out)).mono ?_;rintro e u7 ⟨rfl,h⟩;have HM:=zh HN;clear HN EX;replace XP:=XP.bl h;replace X1:=X1.bl h;replace X4:=X4.bl h;replace X5:=X5.bl h;replace HB:=zh (Bt HB.out h);clear h;have aZ:=XP.out.cell;have aX:=XP.out.lt;have aY:=XP.out.free;obtain ⟨aO,aN,aP⟩:=X1.clf;obtain ⟨xS,xK,xQ⟩:=X4.clf;obtain ⟨XY,Xr,XU⟩:=X5.clf;go_wp2_with fail
  clear aZ aX aY aO aN aP xS xK xQ XY Xr XU;refine (jU _).mono ?_;rintro e u8 H;obtain ⟨h,⟨hk,rfl,HR2⟩|⟨hk,rfl⟩⟩:=aF H HM.out
  rotate_left
  ·exact ⟨rfl,Bt HB.out h,.inr ⟨hk,rfl⟩⟩
  clear H HM;subst hk;replace HR:=zh HR2;clear HR2;replace XP:=XP.bl h;replace X1:=X1.bl h;replace X4:=X4.bl h;replace X5:=X5.bl h;replace HB:=zh (Bt HB.out h);clear h
  by_cases hc:x7=0
  ·skip
   replace HR:=zh (gD.pos HR.out hc);have aZ:=XP.out.cell;have aX:=XP.out.lt;have aY:=XP.out.free;obtain ⟨aO,aN,aP⟩:=X1.clf;obtain ⟨xS,xK,xQ⟩:=X4.clf;obtain ⟨XY,Xr,XU⟩:=X5.clf;go_wp2_with fail
   clear aZ aX aY aO aN aP xS xK xQ XY Xr XU;obtain ⟨hk, -⟩:=HR.out;cases hk;have hb:=HB.out;exact ⟨rfl,au,.inr ⟨by decide,rfl⟩⟩
  ·skip
   replace HR:=zh (gD.neg HR.out hc);have aZ:=XP.out.cell;have aX:=XP.out.lt;have aY:=XP.out.free;obtain ⟨aO,aN,aP⟩:=X1.clf;obtain ⟨xS,xK,xQ⟩:=X4.clf;obtain ⟨XY,Xr,XU⟩:=X5.clf;go_wp2_with fail
   clear aZ aX aY aO aN aP xS xK xQ XY Xr XU;obtain ⟨Jw,EW,hz,X9⟩:=pJ u8 #[.int .i64 x7,.int .i64 y7] 40;rw [EW];clear EW;replace XP:=XP.bl hz;replace X1:=X1.bl hz;replace X4:=X4.bl hz;replace X5:=X5.bl hz;replace HB:=zh (Bt HB.out hz);clear hz;obtain ⟨p10,ep⟩:∃ p,u8.heap.size=p:=⟨_,rfl⟩;rw [ep] at X9 ⊢;clear ep;refine aC [(.read,0),(.pure,1),(.pure,2),(.read,3),(.pure,5),(.pure,6),(.read,7),(.ext,4),(.ext,8),(.pure,9),(.pure,10),(.fin,11)] zk zk zR zP ?_;refine Wk.out ?_;obtain ⟨cX9,lX9,fX9⟩:=X9.clf;have aZ:=XP.out.cell;have aX:=XP.out.lt;have aY:=XP.out.free;refine zS ?_;clear cX9 lX9 fX9 aZ aX aY;obtain ⟨⟨x11,y11⟩,k11,EX,HN⟩:=aD HR.out;refine aM rfl rfl (fun we hbe J hJ=>?_);go_simp;have hx:Below Jw.heap.size Jw we:=au;have aW:=zh (Bt HB.out hx);refine (MX (gD.of EX) _ (X9.out.later hx)).mono ?_;rintro e Mj H
   obtain ⟨h,⟨hk,rfl,HR2⟩|⟨hk,rfl⟩⟩:=aF H HN
   rotate_left
   ·exact ⟨rfl,Bt (Bt HB.out hx) h,.inr ⟨hk,rfl⟩⟩
   clear H HN EX;subst hk;replace HR:=zh HR2;clear HR2;have hy:=Bt hx h;refine hJ _ _ h ?_;clear hJ J hbe hx h aW;replace XP:=XP.bl hy;replace X1:=X1.bl hy;replace X4:=X4.bl hy;replace X5:=X5.bl hy;replace X9:=X9.bl hy;replace HB:=zh (Bt HB.out hy);clear hy;obtain ⟨cX9,lX9,fX9⟩:=X9.clf;have aZ:=XP.out.cell;have aX:=XP.out.lt;have aY:=XP.out.free;refine zS ?_;clear cX9 lX9 fX9 aZ aX aY;obtain ⟨⟨Fg,Fe⟩,k12,EX,HN⟩:=aD HR.out;refine aM rfl rfl (fun we hbe J hJ=>?_);go_simp;have hx:Below Mj.heap.size Mj we:=au;have aW:=zh (Bt HB.out hx);refine (MX (gD.of EX) _ (X9.out.later hx)).mono ?_;rintro e Oq H;obtain ⟨h,⟨hk,rfl,HR2⟩|⟨hk,rfl⟩⟩:=aF H HN
   rotate_left
   ·exact ⟨rfl,Bt (Bt HB.out hx) h,.inr ⟨hk,rfl⟩⟩
   clear H HN EX;subst hk;replace HR:=zh HR2;clear HR2;have hy:=Bt hx h;refine hJ _ _ h ?_;clear hJ J hbe hx h aW;replace XP:=XP.bl hy;replace X1:=X1.bl hy;replace X4:=X4.bl hy;replace X5:=X5.bl hy;replace X9:=X9.bl hy;replace HB:=zh (Bt HB.out hy);clear hy;obtain ⟨cX9,lX9,fX9⟩:=X9.clf;have aZ:=XP.out.cell;have aX:=XP.out.lt;have aY:=XP.out.free;refine zS ?_;clear cX9 lX9 fX9 aZ aX aY;refine iK [_] rfl (fun Mi hbf=>?_);have hy:Below Oq.heap.size Oq Mi:=au;replace XP:=XP.bl hy;replace X1:=X1.bl hy;replace X4:=X4.bl hy;replace X5:=X5.bl hy;replace X9:=X9.bl hy;replace HB:=zh (Bt HB.out hy);clear hy hbf;have aZ:=XP.out.cell;have aX:=XP.out.lt;have aY:=XP.out.free;obtain ⟨aO,aN,aP⟩:=X1.clf;obtain ⟨xS,xK,xQ⟩:=X4.clf;obtain ⟨XY,Xr,XU⟩:=X5.clf;obtain ⟨cX9,lX9,fX9⟩:=X9.clf;go_wp2_with fail
   clear aZ aX aY aO aN aP xS xK xQ XY Xr XU cX9 lX9 fX9;obtain ⟨hk,hv⟩:=HR.out;cases hk
   cases hv rfl
   have hr:=X1.out;have hb:=HB.out;refine dG rfl rfl aH Tryz.underlying118 rfl zk ?_;exact ⟨au,.inl ⟨rfl,rfl⟩⟩
 ·skip
  have HR:=zh (gD.cond_false HC.out);clear HC;have aZ:=XP.out.cell;have aX:=XP.out.lt;have aY:=XP.out.free;obtain ⟨aO,aN,aP⟩:=X1.clf;go_wp2_with fail
  clear aZ aX aY aO aN aP;obtain ⟨w15,EW,hz,X4,aV⟩:=uH u3 #[.int .i64 x3,.int .i64 y3] 40 #[.int .i64 l3,.int .i64 l4,.int .i64 l5,.int .i64 l6] 40;rw [EW];clear EW;replace XP:=XP.bl hz;replace X1:=X1.bl hz;replace HB:=zh (Bt HB.out hz);clear hz;obtain ⟨p15,ep⟩:∃ p,u3.heap.size=p:=⟨_,rfl⟩;rw [ep] at X4 aV ⊢;clear ep;obtain ⟨⟨YH,y16⟩,k16,EX,HN⟩:=aD HR.out;refine (af2 EX _ aV.out (HP.out.later HB.out) (HE.out.later HB.out)).mono ?_;rintro e u16 ⟨rfl,h⟩;have HM:=zh HN;clear HN EX;replace XP:=XP.bl h;replace X1:=X1.bl h;replace X4:=X4.bl h;replace aV:=aV.bl h;replace HB:=zh (Bt HB.out h);clear h;have aZ:=XP.out.cell;have aX:=XP.out.lt;have aY:=XP.out.free;obtain ⟨aO,aN,aP⟩:=X1.clf;obtain ⟨xS,xK,xQ⟩:=X4.clf;have fJ:=aV.out.cell;have fF:=aV.out.lt;have fI:=aV.out.free;go_wp2_with fail
  clear aZ aX aY aO aN aP xS xK xQ fJ fF fI;refine (jU _).mono ?_;rintro e YQ H;obtain ⟨h,⟨hk,rfl,HR2⟩|⟨hk,rfl⟩⟩:=aF H HM.out
  rotate_left
  ·exact ⟨rfl,Bt HB.out h,.inr ⟨hk,rfl⟩⟩
  clear H HM;subst hk;replace HR:=zh HR2;clear HR2;replace XP:=XP.bl h;replace X1:=X1.bl h;replace X4:=X4.bl h;replace aV:=aV.bl h;replace HB:=zh (Bt HB.out h);clear h
  by_cases hc:YH=0
  ·skip
   replace HR:=zh (gD.pos HR.out hc);have aZ:=XP.out.cell;have aX:=XP.out.lt;have aY:=XP.out.free;obtain ⟨aO,aN,aP⟩:=X1.clf;obtain ⟨xS,xK,xQ⟩:=X4.clf;have fJ:=aV.out.cell;have fF:=aV.out.lt;have fI:=aV.out.free;go_wp2_with fail
   clear aZ aX aY aO aN aP xS xK xQ fJ fF fI;obtain ⟨hk, -⟩:=HR.out;cases hk;have hb:=HB.out;exact ⟨rfl,au,.inr ⟨by decide,rfl⟩⟩
  ·skip
   replace HR:=zh (gD.neg HR.out hc);have aZ:=XP.out.cell;have aX:=XP.out.lt;have aY:=XP.out.free;obtain ⟨aO,aN,aP⟩:=X1.clf;obtain ⟨xS,xK,xQ⟩:=X4.clf;have fJ:=aV.out.cell;have fF:=aV.out.lt;have fI:=aV.out.free;go_wp2_with fail
   clear aZ aX aY aO aN aP xS xK xQ fJ fF fI;obtain ⟨w19,EW,hz,Kw⟩:=pJ YQ #[.int .i64 YH,.int .i64 y16] 40;rw [EW];clear EW;replace XP:=XP.bl hz;replace X1:=X1.bl hz;replace X4:=X4.bl hz;replace aV:=aV.bl hz;replace HB:=zh (Bt HB.out hz);clear hz;obtain ⟨p19,ep⟩:∃ p,YQ.heap.size=p:=⟨_,rfl⟩;rw [ep] at Kw ⊢;clear ep;refine aC [(.read,0),(.pure,1),(.pure,2),(.read,3),(.pure,5),(.pure,6),(.read,7),(.ext,4),(.ext,8),(.pure,9),(.pure,10),(.fin,11)] zk zk zR zP ?_;refine Wk.out ?_;have Uh:=Kw.out.cell;have Tk:=Kw.out.lt;have Uc:=Kw.out.free;have aZ:=XP.out.cell;have aX:=XP.out.lt;have aY:=XP.out.free;refine zS ?_;clear Uh Tk Uc aZ aX aY;obtain ⟨⟨x20,y20⟩,k20,EX,HN⟩:=aD HR.out;refine aM rfl rfl (fun we hbe J hJ=>?_);go_simp;have hx:Below w19.heap.size w19 we:=au;have aW:=zh (Bt HB.out hx)
   refine (MX (gD.of EX) _ (Kw.out.later hx)).mono ?_;rintro e u20 H;obtain ⟨h,⟨hk,rfl,HR2⟩|⟨hk,rfl⟩⟩:=aF H HN
   rotate_left
   ·exact ⟨rfl,Bt (Bt HB.out hx) h,.inr ⟨hk,rfl⟩⟩
   clear H HN EX;subst hk;replace HR:=zh HR2;clear HR2;have hy:=Bt hx h;refine hJ _ _ h ?_;clear hJ J hbe hx h aW;replace XP:=XP.bl hy;replace X1:=X1.bl hy;replace X4:=X4.bl hy;replace aV:=aV.bl hy;replace Kw:=Kw.bl hy;replace HB:=zh (Bt HB.out hy);clear hy;have Uh:=Kw.out.cell;have Tk:=Kw.out.lt;have Uc:=Kw.out.free;have aZ:=XP.out.cell;have aX:=XP.out.lt;have aY:=XP.out.free;refine zS ?_;clear Uh Tk Uc aZ aX aY;obtain ⟨⟨x21,y21⟩,k21,EX,HN⟩:=aD HR.out;refine aM rfl rfl (fun we hbe J hJ=>?_);go_simp;have hx:Below u20.heap.size u20 we:=au;have aW:=zh (Bt HB.out hx);refine (MX (gD.of EX) _ (Kw.out.later hx)).mono ?_;rintro e u21 H;obtain ⟨h,⟨hk,rfl,HR2⟩|⟨hk,rfl⟩⟩:=aF H HN
   rotate_left
   ·exact ⟨rfl,Bt (Bt HB.out hx) h,.inr ⟨hk,rfl⟩⟩
   clear H HN EX;subst hk;replace HR:=zh HR2;clear HR2;have hy:=Bt hx h;refine hJ _ _ h ?_;clear hJ J hbe hx h aW;replace XP:=XP.bl hy;replace X1:=X1.bl hy;replace X4:=X4.bl hy;replace aV:=aV.bl hy;replace Kw:=Kw.bl hy;replace HB:=zh (Bt HB.out hy);clear hy;have Uh:=Kw.out.cell;have Tk:=Kw.out.lt;have Uc:=Kw.out.free;have aZ:=XP.out.cell;have aX:=XP.out.lt;have aY:=XP.out.free;refine zS ?_;clear Uh Tk Uc aZ aX aY;refine iK [_] rfl (fun u22 hbf=>?_);have hy:Below u21.heap.size u21 u22:=au;replace XP:=XP.bl hy;replace X1:=X1.bl hy;replace X4:=X4.bl hy;replace aV:=aV.bl hy;replace Kw:=Kw.bl hy;replace HB:=zh (Bt HB.out hy);clear hy hbf;have aZ:=XP.out.cell;have aX:=XP.out.lt;have aY:=XP.out.free;obtain ⟨aO,aN,aP⟩:=X1.clf;obtain ⟨xS,xK,xQ⟩:=X4.clf;have fJ:=aV.out.cell;have fF:=aV.out.lt;have fI:=aV.out.free
   have Uh:=Kw.out.cell;have Tk:=Kw.out.lt;have Uc:=Kw.out.free;go_wp2_with fail
   clear aZ aX aY aO aN aP xS xK xQ fJ fF fI Uh Tk Uc;obtain ⟨hk,hv⟩:=HR.out;cases hk
   cases hv rfl
   have hr:=X1.out;have hb:=HB.out;refine dG rfl rfl aH Tryz.underlying118 rfl zk ?_;exact ⟨au,.inl ⟨rfl,rfl⟩⟩
 ·skip
  have HR:=zh (gD.cond_true HC.out);clear HC;have aZ:=XP.out.cell;have aX:=XP.out.lt;have aY:=XP.out.free;obtain ⟨aO,aN,aP⟩:=X1.clf;go_wp2_with fail
  clear aZ aX aY aO aN aP;obtain ⟨w23,EW,hz,X4⟩:=pJ u3 #[.int .i64 x3,.int .i64 y3] 40;rw [EW];clear EW;replace XP:=XP.bl hz;replace X1:=X1.bl hz;replace HB:=zh (Bt HB.out hz);clear hz;obtain ⟨p23,ep⟩:∃ p,u3.heap.size=p:=⟨_,rfl⟩;rw [ep] at X4 ⊢;clear ep;refine aC [(.read,0),(.read,2),(.ext,1),(.pure,3),(.pure,4),(.fin,5)] zk zk zR zP ?_;refine Wk.out ?_;obtain ⟨xS,xK,xQ⟩:=X4.clf;refine zS ?_;clear xS xK xQ;obtain ⟨⟨x24,y24⟩,k24,EX,HN⟩:=aD HR.out;refine aM rfl rfl (fun we hbe J hJ=>?_);go_simp;have hx:Below w23.heap.size w23 we:=au;have aW:=zh (Bt HB.out hx);refine (DJ (gD.of EX) _).mono ?_;rintro e u24 H;obtain ⟨h,⟨hk,rfl,HR2⟩|⟨hk,rfl⟩⟩:=aF H HN
  rotate_left
  ·exact ⟨rfl,Bt (Bt HB.out hx) h,.inr ⟨hk,rfl⟩⟩
  clear H HN EX;subst hk;replace HR:=zh HR2;clear HR2;have hy:=Bt hx h;refine hJ _ _ h ?_;clear hJ J hbe hx h aW;replace XP:=XP.bl hy;replace X1:=X1.bl hy;replace X4:=X4.bl hy;replace HB:=zh (Bt HB.out hy);clear hy;obtain ⟨xS,xK,xQ⟩:=X4.clf;refine zS ?_;clear xS xK xQ;refine iK [_] rfl (fun u25 hbf=>?_);have hy:Below u24.heap.size u24 u25:=au;replace XP:=XP.bl hy;replace X1:=X1.bl hy;replace X4:=X4.bl hy;replace HB:=zh (Bt HB.out hy);clear hy hbf;have aZ:=XP.out.cell;have aX:=XP.out.lt;have aY:=XP.out.free;obtain ⟨aO,aN,aP⟩:=X1.clf;obtain ⟨xS,xK,xQ⟩:=X4.clf;go_wp2_with fail
  clear aZ aX aY aO aN aP xS xK xQ;obtain ⟨hk,hv⟩:=HR.out;cases hk
  cases hv rfl
  have hr:=X1.out;have hb:=HB.out;refine dG rfl rfl aH Tryz.underlying118 rfl zk ?_;exact ⟨au,.inl ⟨rfl,rfl⟩⟩
def aA1 (l:(Int × Int) × (Int × Int) × (Int × Int)):((Int × Int) × (Int × Int) × (Int × Int)) × Int:=if tV l≠0 then (z3,tV l) else Vl l.2.1 l.2.2
def bi1 (w:World) (x1 x2 x3 x4 x5 x6 k:Int) (e:Ending) (w':World):Prop:=Below w.heap.size w w'∧((k=0∧e= .returned (.tuple #[.agg #[.int .i64 x1,.int .i64 x2],.agg #[.int .i64 x3,.int .i64 x4,.int .i64 x5,.int .i64 x6],.int .i64 0]))∨(k≠0∧e= .returned (.tuple #[.agg #[.int .i64 0,.int .i64 0],.agg #[.int .i64 0,.int .i64 0,.int .i64 0,.int .i64 0],.int .i64 k])))
theorem au9 {a1 a2 a3 a4 a5 a6 x1 x2 x3 x4 x5 x6 k:Int} (hx:gD (aA1 ((a1,a2),(a3,a4),(a5,a6))) ((x1,x2),(x3,x4),(x5,x6)) k) (w:World) (ht:jw.Pow w) (he:whole.Er w) :
  Calls Tryz.prog 22 #[.agg #[.int .i64 a1,.int .i64 a2,.int .i64 a3,.int .i64 a4,.int .i64 a5,.int .i64 a6]] w (bi1 w x1 x2 x3 x4 x5 x6 k):=by
 have Jz:Hid (∀ W,Calls Tryz.prog 68 #[.agg #[.int .i64 a1,.int .i64 a2,.int .i64 a3,.int .i64 a4,.int .i64 a5,.int .i64 a6]] W (fun e w'=>e= .returned (.int .i64 (tV ((a1,a2),(a3,a4),(a5,a6))))∧Below W.heap.size W w')):=zh fun W=>Aq a1 a2 a3 a4 a5 a6 W;have e0:aA1 ((a1,a2),(a3,a4),(a5,a6))=if tV ((a1,a2),(a3,a4),(a5,a6))≠0 then (z3,tV ((a1,a2),(a3,a4),(a5,a6))) else Vl (a3,a4) (a5,a6):=rfl
 rw [e0] at hx;have HP:=zh ht;have HE:=zh he;generalize tV ((a1,a2),(a3,a4),(a5,a6))=c at *;have HR:=zh hx;clear hx ht he e0;go_enter Tryz.func22,Tryz.ntmps22
 go_wp2_with fail
 obtain ⟨w1,EW,hz,X1,X3,X4⟩:=Jy w #[.int .i64 a1,.int .i64 a2,.int .i64 a3,.int .i64 a4,.int .i64 a5,.int .i64 a6] 42 #[.int .i64 0,.int .i64 0] 40 #[.int .i64 0,.int .i64 0,.int .i64 0,.int .i64 0] 70;rw [EW];clear EW;refine (Jz.out _).mono ?_;rintro e w2 ⟨rfl,h⟩;replace X1:=X1.bl h;replace X3:=X3.bl h;replace X4:=X4.bl h;have HB:=zh (Bt hz h);clear hz h Jz
 by_cases hc:c=0
 rotate_left
 ·obtain ⟨hk, -⟩:=gD.pos HR.out hc;have b1:(c != 0)=true:=by simp [hc]
  have HC:=zh hc;clear hc HR;obtain ⟨c3,l3,f3⟩:=X3.clf;obtain ⟨c4,l4,f4⟩:=X4.clf;go_wp2_with fail
  have hr:=X3.out;have hr4:=X4.out;have hb:=HB.out;refine MO rfl rfl aH Tryz.underlying40 rfl zk rfl aH Tryz.underlying70 rfl zk ?_;have hk2:c=k:=hk;subst hk2;exact ⟨au,.inr ⟨HC.out,rfl⟩⟩
 replace HR:=zh (gD.neg HR.out (by simp [hc]));subst hc;go_wp2_with fail
 refine (TP (k:=k) w2 (fun W hW=>Zv HR.out W (X1.out.later hW) (HP.out.later (Bt HB.out hW)) (HE.out.later (Bt HB.out hW))) (fun args W=>by rfl)).mono ?_;rintro e w4 ⟨h,hh⟩;replace X3:=X3.bl h;replace X4:=X4.bl h;replace HB:=zh (Bt HB.out h);clear h X1
 obtain ⟨y1,y2,y3,y4,y5,y6,kk,rfl,hy⟩:∃ y1 y2 y3 y4 y5 y6 kk:Int,e= .returned (.tuple #[.agg #[.int .i64 y1,.int .i64 y2,.int .i64 y3,.int .i64 y4,.int .i64 y5,.int .i64 y6],.int .i64 kk])∧((k=0∧kk=0∧y1=x1∧y2=x2∧y3=x3∧y4=x4∧y5=x5∧y6=x6)∨(k≠0∧kk=k∧y1=0∧y2=0∧y3=0∧y4=0∧y5=0∧y6=0)):=by
  rcases hh with ⟨hk,rfl⟩|⟨hk,rfl⟩
  ·exact ⟨x1,x2,x3,x4,x5,x6,0,rfl,.inl ⟨hk,rfl,rfl,rfl,rfl,rfl,rfl,rfl⟩⟩
  ·exact ⟨0,0,0,0,0,0,k,rfl,.inr ⟨hk,rfl,rfl,rfl,rfl,rfl,rfl,rfl⟩⟩
 have HC:Hid (∀ w',Below w.heap.size w w'→bi1 w x1 x2 x3 x4 x5 x6 k (.returned (.tuple #[.agg #[.int .i64 y1,.int .i64 y2],.agg #[.int .i64 y3,.int .i64 y4,.int .i64 y5,.int .i64 y6],.int .i64 kk])) w'):=zh fun w' hb=>by
  rcases hy with ⟨rfl,rfl,rfl,rfl,rfl,rfl,rfl,rfl⟩|⟨h,rfl,rfl,rfl,rfl,rfl,rfl,rfl⟩
  ·exact ⟨hb,.inl ⟨rfl,rfl⟩⟩
  ·exact ⟨hb,.inr ⟨h,rfl⟩⟩
 clear hh hy HR;go_wp2_with fail
 obtain ⟨w5,EW,hz,X5⟩:=pJ w4 #[.int .i64 y1,.int .i64 y2,.int .i64 y3,.int .i64 y4,.int .i64 y5,.int .i64 y6] 118;rw [EW];clear EW;have q3:=X3.out.lt;have q4:=X4.out.lt;obtain ⟨p5,ep⟩:∃ p,w4.heap.size=p:=⟨_,rfl⟩;rw [ep] at q3 q4 X5 ⊢;have n3:p5≠w.heap.size+1:=by omega
 have n4:p5≠w.heap.size+1+1:=by omega
 have m3:w.heap.size+1≠p5:=by omega
 have m4:w.heap.size+1+1≠p5:=by omega
 replace X3:=X3.bl hz;replace X4:=X4.bl hz;replace HB:=zh (Bt HB.out hz);clear hz q3 q4 ep;obtain ⟨c3,l3,f3⟩:=X3.clf;obtain ⟨c4,l4,f4⟩:=X4.clf;have x5:=X5.out;have hcell:∀ W,ah W p5 #[.int .i64 y1,.int .i64 y2,.int .i64 y3,.int .i64 y4,.int .i64 y5,.int .i64 y6] 118→∀ (o:Nat) (v:Value),(#[.int .i64 y1,.int .i64 y2,.int .i64 y3,.int .i64 y4,.int .i64 y5,.int .i64 y6]:Array Value)[o]? =some v→W.cell? ⟨p5,o,none⟩=some v:=fun W h o v e=>(h.cell o).trans e;have g0:w5.cell? ⟨p5,0,none⟩=some (.int .i64 y1):=X5.out.cell 0;have g1:w5.cell? ⟨p5,1,none⟩=some (.int .i64 y2):=X5.out.cell 1;have g2:w5.cell? ⟨p5,2,none⟩=some (.int .i64 y3):=X5.out.cell 2;have g3:w5.cell? ⟨p5,3,none⟩=some (.int .i64 y4):=X5.out.cell 3;have g4:w5.cell? ⟨p5,4,none⟩=some (.int .i64 y5):=X5.out.cell 4;have g5:w5.cell? ⟨p5,5,none⟩=some (.int .i64 y6):=X5.out.cell 5
 go_region_held (fun w'=>w'.cell? ⟨p5,0,none⟩=some (.int .i64 y1)∧w'.cell? ⟨p5,1,none⟩=some (.int .i64 y2)∧w'.cell? ⟨p5,2,none⟩=some (.int .i64 y3)∧w'.cell? ⟨p5,3,none⟩=some (.int .i64 y4)∧w'.cell? ⟨p5,4,none⟩=some (.int .i64 y5)∧w'.cell? ⟨p5,5,none⟩=some (.int .i64 y6))
  ((refine ⟨hcell _ ?_ 0 _ rfl,hcell _ ?_ 1 _ rfl,hcell _ ?_ 2 _ rfl,hcell _ ?_ 3 _ rfl,hcell _ ?_ 4 _ rfl,hcell _ ?_ 5 _ rfl⟩<;>exact aH)) (fail)
 all_goals
  go_wp2_with fail
  have hr:=X3.out;have hr4:=X4.out;have hb:=HB.out;refine MO rfl rfl aH Tryz.underlying40 rfl zk rfl aH Tryz.underlying70 rfl zk ?_;exact HC.out _ au
end Go.Proofs.lab
namespace Go.Proofs.verdigrislaw24
open Go Go.RowKit Go.SW Go.Num Go.Mem Go.Proofs Go.Dec Go.jQ Go.Proofs.lab Go.Proofs.fD
theorem pV {x y z d:Int} {s1 s2 s3 s4 s5 s6:ByteArray} (e:tq x y z d=⟨⟨s1,s2⟩,⟨s3,s4⟩,⟨s5,s6⟩⟩) (h:(sm x d&&sm y d&&sm z d)=true) (W:World) (ht:jw.Pow W) :
  Calls Tryz.prog 38 #[.int .i64 x,.int .i64 y,.int .i64 z,.int .i64 d] W (fun e w'=>e= .returned (.agg #[.string s1,.string s2,.string s3,.string s4,.string s5,.string s6])∧Below W.heap.size W w'):=by
 simp only [Bool.and_eq_true] at h;have:=az2 x y z d h.1.1 h.1.2 h.2 W ht;rw [e] at this;exact this
theorem qJ {x y z d p q r:Int} (hx:(-1000≤x∧x≤1000)∧(-1000≤y∧y≤1000)∧(-1000≤z∧z≤1000)∧(1≤d∧d≤1000)) (hp:Sj x d=p) (hq:Sj y d=q) (hr:Sj z d=r) (W:World) :
  Calls Tryz.prog 16 #[.int .i64 x,.int .i64 y,.int .i64 z,.int .i64 d] W (fun e w'=>e= .returned (.agg #[.int .i64 p,.int .i64 p,.int .i64 q,.int .i64 q,.int .i64 r,.int .i64 r])∧Below W.heap.size W w'):=by
 subst hp hq hr;exact Aq x y z d hx.1 hx.2.1 hx.2.2.1 hx.2.2.2 W
theorem Iz {w w':World} {v z:Value} {k:Int} {e:Ending} (h:Om w v z k e w') (hz:k≠0→v=z):e= .returned (.tuple #[v,.int .i64 k])∧Below w.heap.size w w':=by
 obtain ⟨hb,⟨rfl,rfl⟩|⟨hk,rfl⟩⟩:=h
 ·exact ⟨rfl,hb⟩
 ·rw [hz hk];exact ⟨rfl,hb⟩
theorem lK {t w:light.mD} {v:((Int × Int) × (Int × Int) × (Int × Int))} {k:Int} (h:Bg t w=(v,k)) (W:World) (ht:jw.Pow W) (he:whole.Er W) (hz:k≠0→v=z3:=by decide) :
  Calls Tryz.prog 14 #[.agg #[.string t.x.n,.string t.x.d,.string t.y.n,.string t.y.d,.string t.z.n,.string t.z.d],.agg #[.string w.x.n,.string w.x.d,.string w.y.n,.string w.y.d,.string w.z.n,.string w.z.d]] W (fun e w'=>e= .returned (.tuple #[.agg #[.int .i64 v.1.1,.int .i64 v.1.2,.int .i64 v.2.1.1,.int .i64 v.2.1.2,.int .i64 v.2.2.1,.int .i64 v.2.2.2],.int .i64 k])∧Below W.heap.size W w') :=
 (au6 (gD.of h) W ht he).mono fun _ _ g=>Iz g fun hk=>by rw [hz hk];rfl
theorem qg {t w:light.mD} {v:light.mD} {k:Int} (h:IC t w=(v,k)) (W:World) (ht:jw.Pow W) (he:whole.Er W) (hz:k≠0→v=t0:=by decide) :
  Calls Tryz.prog 32 #[.agg #[.string t.x.n,.string t.x.d,.string t.y.n,.string t.y.d,.string t.z.n,.string t.z.d],.agg #[.string w.x.n,.string w.x.d,.string w.y.n,.string w.y.d,.string w.z.n,.string w.z.d]] W (fun e w'=>e= .returned (.tuple #[.agg #[.string v.x.n,.string v.x.d,.string v.y.n,.string v.y.d,.string v.z.n,.string v.z.d],.int .i64 k])∧Below W.heap.size W w') :=
 (Yq (gD.of h) W ht he).mono fun _ _ g=>Iz g fun hk=>by rw [hz hk];rfl
theorem encode_at {t v:light.mD} {k:Int} (h:aF7 t=(v,k)) (W:World) (ht:jw.Pow W) (hz:k≠0→v=t0:=by decide) :
  Calls Tryz.prog 25 #[.agg #[.string t.x.n,.string t.x.d,.string t.y.n,.string t.y.d,.string t.z.n,.string t.z.d]] W (fun e w'=>e= .returned (.tuple #[.agg #[.string v.x.n,.string v.x.d,.string v.y.n,.string v.y.d,.string v.z.n,.string v.z.d],.int .i64 k])∧Below W.heap.size W w') :=
 (ai2 (gD.of h) W ht).mono fun _ _ g=>Iz g fun hk=>by rw [hz hk];rfl
theorem decode_at {t v:light.mD} {k:Int} (h:aG2 t=(v,k)) (W:World) (ht:jw.Pow W) (hz:k≠0→v=t0:=by decide) :
  Calls Tryz.prog 27 #[.agg #[.string t.x.n,.string t.x.d,.string t.y.n,.string t.y.d,.string t.z.n,.string t.z.d]] W (fun e w'=>e= .returned (.tuple #[.agg #[.string v.x.n,.string v.x.d,.string v.y.n,.string v.y.d,.string v.z.n,.string v.z.d],.int .i64 k])∧Below W.heap.size W w') :=
 (ai4 (gD.of h) W ht).mono fun _ _ g=>Iz g fun hk=>by rw [hz hk];rfl
theorem wI {t v:(Int × Int) × (Int × Int) × (Int × Int)} {k:Int} (h:aA1 t=(v,k)) (W:World) (ht:jw.Pow W) (he:whole.Er W) (hz:k≠0→v=z3:=by decide) :
  Calls Tryz.prog 22 #[.agg #[.int .i64 t.1.1,.int .i64 t.1.2,.int .i64 t.2.1.1,.int .i64 t.2.1.2,.int .i64 t.2.2.1,.int .i64 t.2.2.2]] W (fun e w'=>e= .returned (.tuple #[.agg #[.int .i64 v.1.1,.int .i64 v.1.2],.agg #[.int .i64 v.2.1.1,.int .i64 v.2.1.2,.int .i64 v.2.2.1,.int .i64 v.2.2.2],.int .i64 k])∧Below W.heap.size W w') :=
 (au9 (gD.of h) W ht he).mono fun _ _ g=>by
  obtain ⟨hb,⟨rfl,rfl⟩|⟨hk,rfl⟩⟩:=g
  ·exact ⟨rfl,hb⟩
  ·rw [hz hk];exact ⟨rfl,hb⟩
end Go.Proofs.verdigrislaw24
