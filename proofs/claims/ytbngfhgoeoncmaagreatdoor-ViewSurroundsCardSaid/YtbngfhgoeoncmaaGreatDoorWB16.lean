/- Lemmas for the proof. No condition. -/
import Derived.Test.YtbngfhgoeoncmaaGreatDoorWB15
import Derived.Laws.Tables
set_option linter.unusedVariables false
set_option linter.unusedSimpArgs false
set_option maxRecDepth 100000
set_option maxHeartbeats 16000000
open Bool renaming and_eq_true → aF
open Go.Ending renaming returned → aj
open Go.IntKind renaming i64 → I
open Go.Value renaming agg → aB, bool → ak, int → Z, pointer → ay, slice → ah, string → O, tuple → aD
open List renaming cons_append → bP, length_cons → aV, mem_cons → dQ, not_mem_nil → gU, range → dB, set_cons_succ → aN, set_cons_zero → aM
open Nat renaming le_refl → aC
open Prod.mk renaming injEq → fP
namespace Go.Proofs.view
open Go Go.RowKit Go.SW Go.Num Go.Mem Go.Proofs Go.Dec Go.fG
theorem pG {w:World} {b:Nat} {cs cs':Array Value} {T:TypeId} (h:aA w b cs T) (e:cs=cs'):aA w b cs' T:=e ▸ h
def caught (er:Int) (rec:Bool):FrameMode:=.panicking [{ v:=.iface 101 (aB #[Z I er]),recovered:=rec }]
theorem fA {P:Program} {fn:Func} {w:World} {tmps:Array Value} {p q:Tmp} {ty AP:TypeId} {g g2:Nat} {x y:Value} (h:fn.results=#[.cell p ty,.cell q AP])
  (hp:tmps.getD p undef= ay (some ⟨g,0,none⟩)) (hq:tmps.getD q undef= ay (some ⟨g2,0,none⟩)) (h1:(loadVar ty ⟨g,0,none⟩).run P w= .ok x w) (h2:(loadVar AP ⟨g2,0,none⟩).run P w= .ok y w) :
  (results fn tmps).run P w= .ok (aD #[x,y]) w:=by
 have hp':tmps[p]?.getD undef= ay (some ⟨g,0,none⟩):=by simpa using hp
 have hq':tmps[q]?.getD undef= ay (some ⟨g2,0,none⟩):=by simpa using hq
 simp [results,h,hp',hq',asAddr,h1,h2]
theorem jF {w:World} {c:Nat} {z:Int} (h:aA w c #[Z I z] 28):(loadVar 28 ⟨c,0,none⟩).run Tryz.prog w= .ok (Z I z) w:=by
 have hc:=h.cell 0;simp [go_sem,hc]
theorem Ng (p q:Addr) (w:World) :
  CallsD Tryz.prog 48 #[ay (some p),ay (some q)] .returning w fun e u' w'=>e= aj (aD #[])∧u'= .returning∧w'=w:=by
 refine callsD_of_wpS Tryz.func48 rfl fun c₀ cs hu=>?_;simp only [Tryz.ntmps48,List.size_toArray,aV,List.length_nil,Nat.reduceAdd,Nat.reduceSub,Array.replicate_succ,Array.replicate_zero,List.push_toArray,List.append_toArray,List.nil_append,bP];refine wpS_seq (wpS_region ?_);generalize hQ:Exit.thenS _ _=Q;simp [wpOpsS,go_sem,recoverD,hu]
 rw [← hQ];clear hQ;refine wpS_of_wp ?_;go_wp2_with fail
 cases c₀
 simp_all [bodyPostS,results,Tryz.results48]
theorem ax7 (b c:Nat) (s1 s2:Int) (z er:Int) (w:World) (hb:aA w b #[Z I s1,Z I s2] 26) (hc:aA w c #[Z I z] 28) :
  CallsD Tryz.prog 48 #[ay (some ⟨b,0,none⟩),ay (some ⟨c,0,none⟩)] (caught er false) w fun e u' w' =>
   e= aj (aD #[])∧u'=caught er true∧aA w' b #[Z I 0,Z I 0] 26∧aA w' c #[Z I er] 28∧∀ w0:World,w0.heap.size≤b→w0.heap.size≤c→Bw w0 w→Bw w0 w':=by
 unfold caught;refine callsD_of_wpS Tryz.func48 rfl fun c₀ cs hu=>?_;simp only [Tryz.ntmps48,List.size_toArray,aV,List.length_nil,Nat.reduceAdd,Nat.reduceSub,Array.replicate_succ,Array.replicate_zero,List.push_toArray,List.append_toArray,List.nil_append,bP];refine wpS_seq (wpS_region ?_);generalize hQ:Exit.thenS _ _=Q;simp [wpOpsS,go_sem,recoverD,hu]
 rw [← hQ];clear hQ;refine wpS_of_wp ?_
 refine wp_mono (Fx.F5 (n:=18) (R:=fun e _ w'=>e= .normal∧aA w' b #[Z I 0,Z I 0] 26∧aA w' c #[Z I er] 28∧Fx.vg [b,c] w w')
  (S:=[(0,ay (some ⟨b,0,none⟩)),(1,ay (some ⟨c,0,none⟩)),(2,.iface 101 (aB #[Z I er]))]) ?_ (Fx.Mem.two hb hc (hb.ne hc zd)) (Fx.ao1 rfl rfl)) ?_
 ·refine Fx.bK [2] 3 26 [] [] fun b2=>?_;refine Fx.bK [5,3,4] 4 101 [(14,ak true),(13,aB #[Z I er])] [(0,#[Z I 0,Z I 0]),(1,#[Z I 9])] fun b3=>?_;exact Fx.av6 [6,1,6,4] [(1,#[Z I er]),(3,#[Z I er])] fun S w' M=>⟨rfl,M.all 0 _ rfl,M.all 1 _ rfl,M.GK⟩
 ·intro e a' w' h;cases e with
  | normal =>
   obtain ⟨S',hr, -, h1,h2,h3⟩:=h;refine ⟨hr.defers,_,rfl,_,results_none rfl _ _ _,rfl,rfl,h1,h2,fun w0 g1 g2 g3=>h3.below g3 fun x hx=>?_⟩;simp only [dQ,gU,or_false] at hx
   rcases hx with rfl|rfl<;>assumption
  | panic ch=>obtain ⟨-, S',he, -⟩:=h;cases he
  | exit id=>obtain ⟨S', -, he, -⟩:=h;cases he
  | goto id=>obtain ⟨S', -, he, -⟩:=h;cases he
  | ret=>obtain ⟨S', -, he, -⟩:=h;cases he
  | outgrown=>obtain ⟨S', -, he, -⟩:=h;cases he
theorem VY {w:World} {b:Nat} {s1 s2:Int} (h:aA w b #[Z I s1,Z I s2] 26):(loadVar 26 ⟨b,0,none⟩).run Tryz.prog w= .ok (aB #[Z I s1,Z I s2]) w :=
 run_loadVar_row w b 26 26 _ (0,0) _ h Tryz.underlying26 rfl zk
theorem F8 {f:FuncId} {caps:Array Value} {k:Int} {s1 s2:Int} (w:World) (HC:∀ W,Bw w W→Calls Tryz.prog f caps W (Try W (aB #[Z I s1,Z I s2]) k))
  (hf:∀ args W,(callFunc f args).run Tryz.prog W= .ok (.enter f args) W) :
  Calls Tryz.prog 19 #[.func (.func f) #[] caps] w (Qg w (aB #[Z I s1,Z I s2]) (aB #[Z I 0,Z I 0]) k):=by
 have Q0:∀ (fn:Fn) (first cap:Array Value) (w:World),(Instr.makeFunc fn first cap).run Tryz.prog w= .ok (.func fn first cap) w:=fun _ _ _ _=>rfl;have Qf:=zh HC;clear HC;have hb0:Below w.heap.size w ((w.alloc (.cells #[Z I 0,Z I 0] 26)).alloc (.cells #[Z I 0] 28)):=aI;obtain ⟨w0,rV⟩:∃ y,(w.alloc (.cells #[Z I 0,Z I 0] 26)).alloc (.cells #[Z I 0] 28)=y:=⟨_,rfl⟩;have hx1:aA w0 w.heap.size #[Z I 0,Z I 0] 26:=by rw [← rV];exact bq
 have hx2:aA w0 (w.heap.size+1) #[Z I 0] 28:=by rw [← rV];exact bq
 rw [rV] at hb0
 go_enter_defers Tryz.func19,Tryz.ntmps19
 go_wp2_with fail
 refine (Qf.out _ hb0).mono ?_;rintro e w1 ⟨hb1,⟨rfl,rfl⟩|⟨h,rfl⟩⟩
 ·replace hx1:=hx1.later hb1;replace hx2:=hx2.later hb1;have hne:w.heap.size≠w.heap.size+1:=by omega
  have hx3:aA (w1.setRow w.heap.size #[Z I s1,Z I s2]) w.heap.size #[Z I s1,Z I s2] 26:=setRow_heap _ _ _ _ _ _ hx1
  have hx4:aA (w1.setRow w.heap.size #[Z I s1,Z I s2]) (w.heap.size+1) #[Z I 0] 28:=by
   unfold aA at *;rw [setRow_other _ _ _ _ zo];exact hx2
  have hbw:Below w.heap.size w (w1.setRow w.heap.size #[Z I s1,Z I s2]):=below_setRow (Bt hb0 hb1) (aC _) _;have c2:=hx4.cell;have f2:=hx4.free;have Yl:=zh hx1;have Od:Hid (aA ((w1.setRow w.heap.size #[Z I s1,Z I s2]).setCell ⟨w.heap.size+1,0,none⟩ (Z I 0)) w.heap.size #[Z I s1,Z I s2] 26):=zh bq
  have HX4:Hid (aA ((w1.setRow w.heap.size #[Z I s1,Z I s2]).setCell ⟨w.heap.size+1,0,none⟩ (Z I 0)) (w.heap.size+1) #[Z I 0] 28):=zh (by
   apply pG
   ·exact bq
   ·simp only [List.setIfInBounds_toArray,aM,aN])
  have HBW:Hid (Below w.heap.size w ((w1.setRow w.heap.size #[Z I s1,Z I s2]).setCell ⟨w.heap.size+1,0,none⟩ (Z I 0))):=zh aI;clear hx3 hx4 hbw rV hx1 hx2 hb0 hb1;have h1c:(#[Z I s1,Z I s2]:Array Value).all (·.oneCell')=true:=by simp [Value.oneCell']
  have hic:(Tryz.prog.info? 26).map (·.size)=some (#[Z I s1,Z I s2]:Array Value).size:=by kernel_rfl
  go_wp2_with (refine wpList_store_row rfl 26 (.tmp 2) (.tmp 6) rfl w.heap.size #[Z I s1,Z I s2] rfl rfl 26 #[Z I 0,Z I 0] Yl.out hic rfl h1c ?_)
  refine leaves_cons (f:=48) (args:=#[ay (some ⟨w.heap.size,0,none⟩),ay (some ⟨w.heap.size+1,0,none⟩)]) zi (by simp [go_sem]) ?_;refine (Ng _ _ _).mono ?_;rintro e u' w'' ⟨rfl,rfl,rfl⟩;exact ⟨_,fA rfl rfl rfl (VY Od.out) (jF HX4.out),HBW.out,.inl ⟨rfl,rfl⟩⟩
 ·replace hx1:=hx1.later hb1;replace hx2:=hx2.later hb1
  change bodyPostD _ _ _ (Exit.panic [{ v:=.iface 101 (aB #[Z I k]),recovered:=false }]) _ _
  refine leaves_cons (f:=48) (args:=#[ay (some ⟨w.heap.size,0,none⟩),ay (some ⟨w.heap.size+1,0,none⟩)]) zi (by simp [go_sem]) ?_;refine (ax7 w.heap.size (w.heap.size+1) _ _ _ k _ hx1 hx2).mono ?_;rintro e u' w'' ⟨rfl,rfl,hy1,hy2,hbb⟩;exact ⟨_,fA rfl rfl rfl (VY hy1) (jF hy2),hbb w (aC _) zo (Bt hb0 hb1),.inr ⟨h,rfl⟩⟩
theorem Na (p q:Addr) (w:World) :
  CallsD Tryz.prog 95 #[ay (some p),ay (some q)] .returning w fun e u' w'=>e= aj (aD #[])∧u'= .returning∧w'=w:=by
 refine callsD_of_wpS Tryz.func95 rfl fun c₀ cs hu=>?_;simp only [Tryz.ntmps95,List.size_toArray,aV,List.length_nil,Nat.reduceAdd,Nat.reduceSub,Array.replicate_succ,Array.replicate_zero,List.push_toArray,List.append_toArray,List.nil_append,bP];refine wpS_seq (wpS_region ?_);generalize hQ:Exit.thenS _ _=Q;simp [wpOpsS,go_sem,recoverD,hu]
 rw [← hQ];clear hQ;refine wpS_of_wp ?_;go_wp2_with fail
 cases c₀
 simp_all [bodyPostS,results,Tryz.results95]
theorem ax3 (b c:Nat) (s1 s2 s3 s4 s5 s16:Int) (s6 s7 s8 s9 s10 s11 s12 s13 sZ s15 uo uG vB s20 vw sV:ByteArray) (z er:Int) (w:World) (hb:aA w b #[Z I s1,Z I s2,Z I s3,Z I s4,Z I s5,O s6,O s7,O s8,O s9,O s10,O s11,O s12,O s13,O sZ,O s15,Z I s16,O uo,O uG,O vB,O s20,O vw,O sV] 76) (hc:aA w c #[Z I z] 28) :
  CallsD Tryz.prog 95 #[ay (some ⟨b,0,none⟩),ay (some ⟨c,0,none⟩)] (caught er false) w fun e u' w' =>
   e= aj (aD #[])∧u'=caught er true∧aA w' b #[Z I 0,Z I 0,Z I 0,Z I 0,Z I 0,O ⟨#[]⟩,O ⟨#[]⟩,O ⟨#[]⟩,O ⟨#[]⟩,O ⟨#[]⟩,O ⟨#[]⟩,O ⟨#[]⟩,O ⟨#[]⟩,O ⟨#[]⟩,O ⟨#[]⟩,Z I 0,O ⟨#[]⟩,O ⟨#[]⟩,O ⟨#[]⟩,O ⟨#[]⟩,O ⟨#[]⟩,O ⟨#[]⟩] 76∧aA w' c #[Z I er] 28∧∀ w0:World,w0.heap.size≤b→w0.heap.size≤c→Bw w0 w→Bw w0 w':=by
 unfold caught;refine callsD_of_wpS Tryz.func95 rfl fun c₀ cs hu=>?_;simp only [Tryz.ntmps95,List.size_toArray,aV,List.length_nil,Nat.reduceAdd,Nat.reduceSub,Array.replicate_succ,Array.replicate_zero,List.push_toArray,List.append_toArray,List.nil_append,bP];refine wpS_seq (wpS_region ?_);generalize hQ:Exit.thenS _ _=Q;simp [wpOpsS,go_sem,recoverD,hu]
 rw [← hQ];clear hQ;refine wpS_of_wp ?_
 refine wp_mono (Fx.F5 (n:=18) (R:=fun e _ w'=>e= .normal∧aA w' b #[Z I 0,Z I 0,Z I 0,Z I 0,Z I 0,O ⟨#[]⟩,O ⟨#[]⟩,O ⟨#[]⟩,O ⟨#[]⟩,O ⟨#[]⟩,O ⟨#[]⟩,O ⟨#[]⟩,O ⟨#[]⟩,O ⟨#[]⟩,O ⟨#[]⟩,Z I 0,O ⟨#[]⟩,O ⟨#[]⟩,O ⟨#[]⟩,O ⟨#[]⟩,O ⟨#[]⟩,O ⟨#[]⟩] 76∧aA w' c #[Z I er] 28∧Fx.vg [b,c] w w')
  (S:=[(0,ay (some ⟨b,0,none⟩)),(1,ay (some ⟨c,0,none⟩)),(2,.iface 101 (aB #[Z I er]))]) ?_ (Fx.Mem.two hb hc (hb.ne hc zd)) (Fx.ao1 rfl rfl)) ?_
 ·refine Fx.bK [2] 3 76 [] [] fun b2=>?_;refine Fx.bK [5,3,4] 4 101 [(14,ak true),(13,aB #[Z I er])] [(0,#[Z I 0,Z I 0,Z I 0,Z I 0,Z I 0,O ⟨#[]⟩,O ⟨#[]⟩,O ⟨#[]⟩,O ⟨#[]⟩,O ⟨#[]⟩,O ⟨#[]⟩,O ⟨#[]⟩,O ⟨#[]⟩,O ⟨#[]⟩,O ⟨#[]⟩,Z I 0,O ⟨#[]⟩,O ⟨#[]⟩,O ⟨#[]⟩,O ⟨#[]⟩,O ⟨#[]⟩,O ⟨#[]⟩]),(1,#[Z I 9])] fun b3=>?_;exact Fx.av6 [6,1,6,4] [(1,#[Z I er]),(3,#[Z I er])] fun S w' M=>⟨rfl,M.all 0 _ rfl,M.all 1 _ rfl,M.GK⟩
 ·intro e a' w' h;cases e with
  | normal =>
   obtain ⟨S',hr, -, h1,h2,h3⟩:=h;refine ⟨hr.defers,_,rfl,_,results_none rfl _ _ _,rfl,rfl,h1,h2,fun w0 g1 g2 g3=>h3.below g3 fun x hx=>?_⟩;simp only [dQ,gU,or_false] at hx
   rcases hx with rfl|rfl<;>assumption
  | panic ch=>obtain ⟨-, S',he, -⟩:=h;cases he
  | exit id=>obtain ⟨S', -, he, -⟩:=h;cases he
  | goto id=>obtain ⟨S', -, he, -⟩:=h;cases he
  | ret=>obtain ⟨S', -, he, -⟩:=h;cases he
  | outgrown=>obtain ⟨S', -, he, -⟩:=h;cases he
theorem VU {w:World} {b:Nat} {s1 s2 s3 s4 s5 s16:Int} {s6 s7 s8 s9 s10 s11 s12 s13 sZ s15 uo uG vB s20 vw sV:ByteArray} (h:aA w b #[Z I s1,Z I s2,Z I s3,Z I s4,Z I s5,O s6,O s7,O s8,O s9,O s10,O s11,O s12,O s13,O sZ,O s15,Z I s16,O uo,O uG,O vB,O s20,O vw,O sV] 76):(loadVar 76 ⟨b,0,none⟩).run Tryz.prog w= .ok (aB #[Z I s1,Z I s2,Z I s3,Z I s4,Z I s5,O s6,O s7,O s8,O s9,O s10,O s11,O s12,O s13,O sZ,O s15,Z I s16,O uo,O uG,O vB,O s20,O vw,O sV]) w :=
 run_loadVar_row w b 76 76 _ (0,0) _ h Tryz.underlying76 rfl zk
theorem F7 {f:FuncId} {caps:Array Value} {k:Int} {s1 s2 s3 s4 s5 s16:Int} {s6 s7 s8 s9 s10 s11 s12 s13 sZ s15 uo uG vB s20 vw sV:ByteArray} (w:World) (HC:∀ W,Bw w W→Calls Tryz.prog f caps W (Try W (aB #[Z I s1,Z I s2,Z I s3,Z I s4,Z I s5,O s6,O s7,O s8,O s9,O s10,O s11,O s12,O s13,O sZ,O s15,Z I s16,O uo,O uG,O vB,O s20,O vw,O sV]) k))
  (hf:∀ args W,(callFunc f args).run Tryz.prog W= .ok (.enter f args) W) :
  Calls Tryz.prog 40 #[.func (.func f) #[] caps] w (Qg w (aB #[Z I s1,Z I s2,Z I s3,Z I s4,Z I s5,O s6,O s7,O s8,O s9,O s10,O s11,O s12,O s13,O sZ,O s15,Z I s16,O uo,O uG,O vB,O s20,O vw,O sV]) (aB #[Z I 0,Z I 0,Z I 0,Z I 0,Z I 0,O ⟨#[]⟩,O ⟨#[]⟩,O ⟨#[]⟩,O ⟨#[]⟩,O ⟨#[]⟩,O ⟨#[]⟩,O ⟨#[]⟩,O ⟨#[]⟩,O ⟨#[]⟩,O ⟨#[]⟩,Z I 0,O ⟨#[]⟩,O ⟨#[]⟩,O ⟨#[]⟩,O ⟨#[]⟩,O ⟨#[]⟩,O ⟨#[]⟩]) k):=by
 have Q0:∀ (fn:Fn) (first cap:Array Value) (w:World),(Instr.makeFunc fn first cap).run Tryz.prog w= .ok (.func fn first cap) w:=fun _ _ _ _=>rfl;have Qf:=zh HC;clear HC;have hb0:Below w.heap.size w ((w.alloc (.cells #[Z I 0,Z I 0,Z I 0,Z I 0,Z I 0,O ⟨#[]⟩,O ⟨#[]⟩,O ⟨#[]⟩,O ⟨#[]⟩,O ⟨#[]⟩,O ⟨#[]⟩,O ⟨#[]⟩,O ⟨#[]⟩,O ⟨#[]⟩,O ⟨#[]⟩,Z I 0,O ⟨#[]⟩,O ⟨#[]⟩,O ⟨#[]⟩,O ⟨#[]⟩,O ⟨#[]⟩,O ⟨#[]⟩] 76)).alloc (.cells #[Z I 0] 28)):=aI
 obtain ⟨w0,rV⟩:∃ y,(w.alloc (.cells #[Z I 0,Z I 0,Z I 0,Z I 0,Z I 0,O ⟨#[]⟩,O ⟨#[]⟩,O ⟨#[]⟩,O ⟨#[]⟩,O ⟨#[]⟩,O ⟨#[]⟩,O ⟨#[]⟩,O ⟨#[]⟩,O ⟨#[]⟩,O ⟨#[]⟩,Z I 0,O ⟨#[]⟩,O ⟨#[]⟩,O ⟨#[]⟩,O ⟨#[]⟩,O ⟨#[]⟩,O ⟨#[]⟩] 76)).alloc (.cells #[Z I 0] 28)=y:=⟨_,rfl⟩;have hx1:aA w0 w.heap.size #[Z I 0,Z I 0,Z I 0,Z I 0,Z I 0,O ⟨#[]⟩,O ⟨#[]⟩,O ⟨#[]⟩,O ⟨#[]⟩,O ⟨#[]⟩,O ⟨#[]⟩,O ⟨#[]⟩,O ⟨#[]⟩,O ⟨#[]⟩,O ⟨#[]⟩,Z I 0,O ⟨#[]⟩,O ⟨#[]⟩,O ⟨#[]⟩,O ⟨#[]⟩,O ⟨#[]⟩,O ⟨#[]⟩] 76:=by rw [← rV];exact bq
 have hx2:aA w0 (w.heap.size+1) #[Z I 0] 28:=by rw [← rV];exact bq
 rw [rV] at hb0
 go_enter_defers Tryz.func40,Tryz.ntmps40
 go_wp2_with fail
 refine (Qf.out _ hb0).mono ?_;rintro e w1 ⟨hb1,⟨rfl,rfl⟩|⟨h,rfl⟩⟩
 ·replace hx1:=hx1.later hb1;replace hx2:=hx2.later hb1;have hne:w.heap.size≠w.heap.size+1:=by omega
  have hx3:aA (w1.setRow w.heap.size #[Z I s1,Z I s2,Z I s3,Z I s4,Z I s5,O s6,O s7,O s8,O s9,O s10,O s11,O s12,O s13,O sZ,O s15,Z I s16,O uo,O uG,O vB,O s20,O vw,O sV]) w.heap.size #[Z I s1,Z I s2,Z I s3,Z I s4,Z I s5,O s6,O s7,O s8,O s9,O s10,O s11,O s12,O s13,O sZ,O s15,Z I s16,O uo,O uG,O vB,O s20,O vw,O sV] 76:=setRow_heap _ _ _ _ _ _ hx1
  have hx4:aA (w1.setRow w.heap.size #[Z I s1,Z I s2,Z I s3,Z I s4,Z I s5,O s6,O s7,O s8,O s9,O s10,O s11,O s12,O s13,O sZ,O s15,Z I s16,O uo,O uG,O vB,O s20,O vw,O sV]) (w.heap.size+1) #[Z I 0] 28:=by
   unfold aA at *;rw [setRow_other _ _ _ _ zo];exact hx2
  have hbw:Below w.heap.size w (w1.setRow w.heap.size #[Z I s1,Z I s2,Z I s3,Z I s4,Z I s5,O s6,O s7,O s8,O s9,O s10,O s11,O s12,O s13,O sZ,O s15,Z I s16,O uo,O uG,O vB,O s20,O vw,O sV]):=below_setRow (Bt hb0 hb1) (aC _) _;have c2:=hx4.cell;have f2:=hx4.free;have Yl:=zh hx1
  have Od:Hid (aA ((w1.setRow w.heap.size #[Z I s1,Z I s2,Z I s3,Z I s4,Z I s5,O s6,O s7,O s8,O s9,O s10,O s11,O s12,O s13,O sZ,O s15,Z I s16,O uo,O uG,O vB,O s20,O vw,O sV]).setCell ⟨w.heap.size+1,0,none⟩ (Z I 0)) w.heap.size #[Z I s1,Z I s2,Z I s3,Z I s4,Z I s5,O s6,O s7,O s8,O s9,O s10,O s11,O s12,O s13,O sZ,O s15,Z I s16,O uo,O uG,O vB,O s20,O vw,O sV] 76):=zh bq
  have HX4:Hid (aA ((w1.setRow w.heap.size #[Z I s1,Z I s2,Z I s3,Z I s4,Z I s5,O s6,O s7,O s8,O s9,O s10,O s11,O s12,O s13,O sZ,O s15,Z I s16,O uo,O uG,O vB,O s20,O vw,O sV]).setCell ⟨w.heap.size+1,0,none⟩ (Z I 0)) (w.heap.size+1) #[Z I 0] 28):=zh (by
   apply pG
   ·exact bq
   ·simp only [List.setIfInBounds_toArray,aM,aN])
  have HBW:Hid (Below w.heap.size w ((w1.setRow w.heap.size #[Z I s1,Z I s2,Z I s3,Z I s4,Z I s5,O s6,O s7,O s8,O s9,O s10,O s11,O s12,O s13,O sZ,O s15,Z I s16,O uo,O uG,O vB,O s20,O vw,O sV]).setCell ⟨w.heap.size+1,0,none⟩ (Z I 0))):=zh aI;clear hx3 hx4 hbw rV hx1 hx2 hb0 hb1;have h1c:(#[Z I s1,Z I s2,Z I s3,Z I s4,Z I s5,O s6,O s7,O s8,O s9,O s10,O s11,O s12,O s13,O sZ,O s15,Z I s16,O uo,O uG,O vB,O s20,O vw,O sV]:Array Value).all (·.oneCell')=true:=by simp [Value.oneCell']
  have hic:(Tryz.prog.info? 76).map (·.size)=some (#[Z I s1,Z I s2,Z I s3,Z I s4,Z I s5,O s6,O s7,O s8,O s9,O s10,O s11,O s12,O s13,O sZ,O s15,Z I s16,O uo,O uG,O vB,O s20,O vw,O sV]:Array Value).size:=by kernel_rfl
  go_wp2_with (refine wpList_store_row rfl 76 (.tmp 2) (.tmp 6) rfl w.heap.size #[Z I s1,Z I s2,Z I s3,Z I s4,Z I s5,O s6,O s7,O s8,O s9,O s10,O s11,O s12,O s13,O sZ,O s15,Z I s16,O uo,O uG,O vB,O s20,O vw,O sV] rfl rfl 76 #[Z I 0,Z I 0,Z I 0,Z I 0,Z I 0,O ⟨#[]⟩,O ⟨#[]⟩,O ⟨#[]⟩,O ⟨#[]⟩,O ⟨#[]⟩,O ⟨#[]⟩,O ⟨#[]⟩,O ⟨#[]⟩,O ⟨#[]⟩,O ⟨#[]⟩,Z I 0,O ⟨#[]⟩,O ⟨#[]⟩,O ⟨#[]⟩,O ⟨#[]⟩,O ⟨#[]⟩,O ⟨#[]⟩] Yl.out hic rfl h1c ?_)
  refine leaves_cons (f:=95) (args:=#[ay (some ⟨w.heap.size,0,none⟩),ay (some ⟨w.heap.size+1,0,none⟩)]) zi (by simp [go_sem]) ?_;refine (Na _ _ _).mono ?_;rintro e u' w'' ⟨rfl,rfl,rfl⟩;exact ⟨_,fA rfl rfl rfl (VU Od.out) (jF HX4.out),HBW.out,.inl ⟨rfl,rfl⟩⟩
 ·replace hx1:=hx1.later hb1;replace hx2:=hx2.later hb1
  change bodyPostD _ _ _ (Exit.panic [{ v:=.iface 101 (aB #[Z I k]),recovered:=false }]) _ _
  refine leaves_cons (f:=95) (args:=#[ay (some ⟨w.heap.size,0,none⟩),ay (some ⟨w.heap.size+1,0,none⟩)]) zi (by simp [go_sem]) ?_;refine (ax3 w.heap.size (w.heap.size+1) _ _ _ _ _ _ _ _ _ _ _ _ _ _ _ _ _ _ _ _ _ _ _ k _ hx1 hx2).mono ?_;rintro e u' w'' ⟨rfl,rfl,hy1,hy2,hbb⟩;exact ⟨_,fA rfl rfl rfl (VU hy1) (jF hy2),hbb w (aC _) zo (Bt hb0 hb1),.inr ⟨h,rfl⟩⟩
theorem Nf (p q:Addr) (w:World) :
  CallsD Tryz.prog 67 #[ay (some p),ay (some q)] .returning w fun e u' w'=>e= aj (aD #[])∧u'= .returning∧w'=w:=by
 refine callsD_of_wpS Tryz.func67 rfl fun c₀ cs hu=>?_;simp only [Tryz.ntmps67,List.size_toArray,aV,List.length_nil,Nat.reduceAdd,Nat.reduceSub,Array.replicate_succ,Array.replicate_zero,List.push_toArray,List.append_toArray,List.nil_append,bP];refine wpS_seq (wpS_region ?_);generalize hQ:Exit.thenS _ _=Q;simp [wpOpsS,go_sem,recoverD,hu]
 rw [← hQ];clear hQ;refine wpS_of_wp ?_;go_wp2_with fail
 cases c₀
 simp_all [bodyPostS,results,Tryz.results67]
theorem ax6 (b c:Nat) (s11 s12 vB s20 vw sV K9 s24:Int) (s1 s2 s3 s4 s5 s6 s7 s8 s9 s10 s13 sZ s15 s16 uo uG:ByteArray) (z er:Int) (w:World) (hb:aA w b #[O s1,O s2,O s3,O s4,O s5,O s6,O s7,O s8,O s9,O s10,Z I s11,Z I s12,O s13,O sZ,O s15,O s16,O uo,O uG,Z I vB,Z I s20,Z I vw,Z I sV,Z I K9,Z I s24] 45) (hc:aA w c #[Z I z] 28) :
  CallsD Tryz.prog 67 #[ay (some ⟨b,0,none⟩),ay (some ⟨c,0,none⟩)] (caught er false) w fun e u' w' =>
   e= aj (aD #[])∧u'=caught er true∧aA w' b #[O ⟨#[]⟩,O ⟨#[]⟩,O ⟨#[]⟩,O ⟨#[]⟩,O ⟨#[]⟩,O ⟨#[]⟩,O ⟨#[]⟩,O ⟨#[]⟩,O ⟨#[]⟩,O ⟨#[]⟩,Z I 0,Z I 0,O ⟨#[]⟩,O ⟨#[]⟩,O ⟨#[]⟩,O ⟨#[]⟩,O ⟨#[]⟩,O ⟨#[]⟩,Z I 0,Z I 0,Z I 0,Z I 0,Z I 0,Z I 0] 45∧aA w' c #[Z I er] 28∧∀ w0:World,w0.heap.size≤b→w0.heap.size≤c→Bw w0 w→Bw w0 w':=by
 unfold caught;refine callsD_of_wpS Tryz.func67 rfl fun c₀ cs hu=>?_;simp only [Tryz.ntmps67,List.size_toArray,aV,List.length_nil,Nat.reduceAdd,Nat.reduceSub,Array.replicate_succ,Array.replicate_zero,List.push_toArray,List.append_toArray,List.nil_append,bP];refine wpS_seq (wpS_region ?_);generalize hQ:Exit.thenS _ _=Q;simp [wpOpsS,go_sem,recoverD,hu]
 rw [← hQ];clear hQ;refine wpS_of_wp ?_
 refine wp_mono (Fx.F5 (n:=18) (R:=fun e _ w'=>e= .normal∧aA w' b #[O ⟨#[]⟩,O ⟨#[]⟩,O ⟨#[]⟩,O ⟨#[]⟩,O ⟨#[]⟩,O ⟨#[]⟩,O ⟨#[]⟩,O ⟨#[]⟩,O ⟨#[]⟩,O ⟨#[]⟩,Z I 0,Z I 0,O ⟨#[]⟩,O ⟨#[]⟩,O ⟨#[]⟩,O ⟨#[]⟩,O ⟨#[]⟩,O ⟨#[]⟩,Z I 0,Z I 0,Z I 0,Z I 0,Z I 0,Z I 0] 45∧aA w' c #[Z I er] 28∧Fx.vg [b,c] w w')
  (S:=[(0,ay (some ⟨b,0,none⟩)),(1,ay (some ⟨c,0,none⟩)),(2,.iface 101 (aB #[Z I er]))]) ?_ (Fx.Mem.two hb hc (hb.ne hc zd)) (Fx.ao1 rfl rfl)) ?_
 ·refine Fx.bK [2] 3 45 [] [] fun b2=>?_;refine Fx.bK [5,3,4] 4 101 [(14,ak true),(13,aB #[Z I er])] [(0,#[O ⟨#[]⟩,O ⟨#[]⟩,O ⟨#[]⟩,O ⟨#[]⟩,O ⟨#[]⟩,O ⟨#[]⟩,O ⟨#[]⟩,O ⟨#[]⟩,O ⟨#[]⟩,O ⟨#[]⟩,Z I 0,Z I 0,O ⟨#[]⟩,O ⟨#[]⟩,O ⟨#[]⟩,O ⟨#[]⟩,O ⟨#[]⟩,O ⟨#[]⟩,Z I 0,Z I 0,Z I 0,Z I 0,Z I 0,Z I 0]),(1,#[Z I 9])] fun b3=>?_;exact Fx.av6 [6,1,6,4] [(1,#[Z I er]),(3,#[Z I er])] fun S w' M=>⟨rfl,M.all 0 _ rfl,M.all 1 _ rfl,M.GK⟩
 ·intro e a' w' h;cases e with
  | normal =>
   obtain ⟨S',hr, -, h1,h2,h3⟩:=h;refine ⟨hr.defers,_,rfl,_,results_none rfl _ _ _,rfl,rfl,h1,h2,fun w0 g1 g2 g3=>h3.below g3 fun x hx=>?_⟩;simp only [dQ,gU,or_false] at hx
   rcases hx with rfl|rfl<;>assumption
  | panic ch=>obtain ⟨-, S',he, -⟩:=h;cases he
  | exit id=>obtain ⟨S', -, he, -⟩:=h;cases he
  | goto id=>obtain ⟨S', -, he, -⟩:=h;cases he
  | ret=>obtain ⟨S', -, he, -⟩:=h;cases he
  | outgrown=>obtain ⟨S', -, he, -⟩:=h;cases he
theorem VX {w:World} {b:Nat} {s11 s12 vB s20 vw sV K9 s24:Int} {s1 s2 s3 s4 s5 s6 s7 s8 s9 s10 s13 sZ s15 s16 uo uG:ByteArray} (h:aA w b #[O s1,O s2,O s3,O s4,O s5,O s6,O s7,O s8,O s9,O s10,Z I s11,Z I s12,O s13,O sZ,O s15,O s16,O uo,O uG,Z I vB,Z I s20,Z I vw,Z I sV,Z I K9,Z I s24] 45):(loadVar 45 ⟨b,0,none⟩).run Tryz.prog w= .ok (aB #[O s1,O s2,O s3,O s4,O s5,O s6,O s7,O s8,O s9,O s10,Z I s11,Z I s12,O s13,O sZ,O s15,O s16,O uo,O uG,Z I vB,Z I s20,Z I vw,Z I sV,Z I K9,Z I s24]) w :=
 run_loadVar_row w b 45 45 _ (0,0) _ h Tryz.underlying45 rfl zk
theorem PO {f:FuncId} {caps:Array Value} {k:Int} {s11 s12 vB s20 vw sV K9 s24:Int} {s1 s2 s3 s4 s5 s6 s7 s8 s9 s10 s13 sZ s15 s16 uo uG:ByteArray} (w:World) (HC:∀ W,Bw w W→Calls Tryz.prog f caps W (Try W (aB #[O s1,O s2,O s3,O s4,O s5,O s6,O s7,O s8,O s9,O s10,Z I s11,Z I s12,O s13,O sZ,O s15,O s16,O uo,O uG,Z I vB,Z I s20,Z I vw,Z I sV,Z I K9,Z I s24]) k))
  (hf:∀ args W,(callFunc f args).run Tryz.prog W= .ok (.enter f args) W) :
  Calls Tryz.prog 31 #[.func (.func f) #[] caps] w (Qg w (aB #[O s1,O s2,O s3,O s4,O s5,O s6,O s7,O s8,O s9,O s10,Z I s11,Z I s12,O s13,O sZ,O s15,O s16,O uo,O uG,Z I vB,Z I s20,Z I vw,Z I sV,Z I K9,Z I s24]) (aB #[O ⟨#[]⟩,O ⟨#[]⟩,O ⟨#[]⟩,O ⟨#[]⟩,O ⟨#[]⟩,O ⟨#[]⟩,O ⟨#[]⟩,O ⟨#[]⟩,O ⟨#[]⟩,O ⟨#[]⟩,Z I 0,Z I 0,O ⟨#[]⟩,O ⟨#[]⟩,O ⟨#[]⟩,O ⟨#[]⟩,O ⟨#[]⟩,O ⟨#[]⟩,Z I 0,Z I 0,Z I 0,Z I 0,Z I 0,Z I 0]) k):=by
 have Q0:∀ (fn:Fn) (first cap:Array Value) (w:World),(Instr.makeFunc fn first cap).run Tryz.prog w= .ok (.func fn first cap) w:=fun _ _ _ _=>rfl;have Qf:=zh HC;clear HC;have hb0:Below w.heap.size w ((w.alloc (.cells #[O ⟨#[]⟩,O ⟨#[]⟩,O ⟨#[]⟩,O ⟨#[]⟩,O ⟨#[]⟩,O ⟨#[]⟩,O ⟨#[]⟩,O ⟨#[]⟩,O ⟨#[]⟩,O ⟨#[]⟩,Z I 0,Z I 0,O ⟨#[]⟩,O ⟨#[]⟩,O ⟨#[]⟩,O ⟨#[]⟩,O ⟨#[]⟩,O ⟨#[]⟩,Z I 0,Z I 0,Z I 0,Z I 0,Z I 0,Z I 0] 45)).alloc (.cells #[Z I 0] 28)):=aI
 obtain ⟨w0,rV⟩:∃ y,(w.alloc (.cells #[O ⟨#[]⟩,O ⟨#[]⟩,O ⟨#[]⟩,O ⟨#[]⟩,O ⟨#[]⟩,O ⟨#[]⟩,O ⟨#[]⟩,O ⟨#[]⟩,O ⟨#[]⟩,O ⟨#[]⟩,Z I 0,Z I 0,O ⟨#[]⟩,O ⟨#[]⟩,O ⟨#[]⟩,O ⟨#[]⟩,O ⟨#[]⟩,O ⟨#[]⟩,Z I 0,Z I 0,Z I 0,Z I 0,Z I 0,Z I 0] 45)).alloc (.cells #[Z I 0] 28)=y:=⟨_,rfl⟩;have hx1:aA w0 w.heap.size #[O ⟨#[]⟩,O ⟨#[]⟩,O ⟨#[]⟩,O ⟨#[]⟩,O ⟨#[]⟩,O ⟨#[]⟩,O ⟨#[]⟩,O ⟨#[]⟩,O ⟨#[]⟩,O ⟨#[]⟩,Z I 0,Z I 0,O ⟨#[]⟩,O ⟨#[]⟩,O ⟨#[]⟩,O ⟨#[]⟩,O ⟨#[]⟩,O ⟨#[]⟩,Z I 0,Z I 0,Z I 0,Z I 0,Z I 0,Z I 0] 45:=by rw [← rV];exact bq
 have hx2:aA w0 (w.heap.size+1) #[Z I 0] 28:=by rw [← rV];exact bq
 rw [rV] at hb0
 go_enter_defers Tryz.func31,Tryz.ntmps31
 go_wp2_with fail
 refine (Qf.out _ hb0).mono ?_;rintro e w1 ⟨hb1,⟨rfl,rfl⟩|⟨h,rfl⟩⟩
 ·replace hx1:=hx1.later hb1;replace hx2:=hx2.later hb1;have hne:w.heap.size≠w.heap.size+1:=by omega
  have hx3:aA (w1.setRow w.heap.size #[O s1,O s2,O s3,O s4,O s5,O s6,O s7,O s8,O s9,O s10,Z I s11,Z I s12,O s13,O sZ,O s15,O s16,O uo,O uG,Z I vB,Z I s20,Z I vw,Z I sV,Z I K9,Z I s24]) w.heap.size #[O s1,O s2,O s3,O s4,O s5,O s6,O s7,O s8,O s9,O s10,Z I s11,Z I s12,O s13,O sZ,O s15,O s16,O uo,O uG,Z I vB,Z I s20,Z I vw,Z I sV,Z I K9,Z I s24] 45:=setRow_heap _ _ _ _ _ _ hx1
  have hx4:aA (w1.setRow w.heap.size #[O s1,O s2,O s3,O s4,O s5,O s6,O s7,O s8,O s9,O s10,Z I s11,Z I s12,O s13,O sZ,O s15,O s16,O uo,O uG,Z I vB,Z I s20,Z I vw,Z I sV,Z I K9,Z I s24]) (w.heap.size+1) #[Z I 0] 28:=by
   unfold aA at *;rw [setRow_other _ _ _ _ zo];exact hx2
  have hbw:Below w.heap.size w (w1.setRow w.heap.size #[O s1,O s2,O s3,O s4,O s5,O s6,O s7,O s8,O s9,O s10,Z I s11,Z I s12,O s13,O sZ,O s15,O s16,O uo,O uG,Z I vB,Z I s20,Z I vw,Z I sV,Z I K9,Z I s24]):=below_setRow (Bt hb0 hb1) (aC _) _;have c2:=hx4.cell;have f2:=hx4.free;have Yl:=zh hx1
  have Od:Hid (aA ((w1.setRow w.heap.size #[O s1,O s2,O s3,O s4,O s5,O s6,O s7,O s8,O s9,O s10,Z I s11,Z I s12,O s13,O sZ,O s15,O s16,O uo,O uG,Z I vB,Z I s20,Z I vw,Z I sV,Z I K9,Z I s24]).setCell ⟨w.heap.size+1,0,none⟩ (Z I 0)) w.heap.size #[O s1,O s2,O s3,O s4,O s5,O s6,O s7,O s8,O s9,O s10,Z I s11,Z I s12,O s13,O sZ,O s15,O s16,O uo,O uG,Z I vB,Z I s20,Z I vw,Z I sV,Z I K9,Z I s24] 45):=zh bq
  have HX4:Hid (aA ((w1.setRow w.heap.size #[O s1,O s2,O s3,O s4,O s5,O s6,O s7,O s8,O s9,O s10,Z I s11,Z I s12,O s13,O sZ,O s15,O s16,O uo,O uG,Z I vB,Z I s20,Z I vw,Z I sV,Z I K9,Z I s24]).setCell ⟨w.heap.size+1,0,none⟩ (Z I 0)) (w.heap.size+1) #[Z I 0] 28):=zh (by
   apply pG
   ·exact bq
   ·simp only [List.setIfInBounds_toArray,aM,aN])
  have HBW:Hid (Below w.heap.size w ((w1.setRow w.heap.size #[O s1,O s2,O s3,O s4,O s5,O s6,O s7,O s8,O s9,O s10,Z I s11,Z I s12,O s13,O sZ,O s15,O s16,O uo,O uG,Z I vB,Z I s20,Z I vw,Z I sV,Z I K9,Z I s24]).setCell ⟨w.heap.size+1,0,none⟩ (Z I 0))):=zh aI;clear hx3 hx4 hbw rV hx1 hx2 hb0 hb1;have h1c:(#[O s1,O s2,O s3,O s4,O s5,O s6,O s7,O s8,O s9,O s10,Z I s11,Z I s12,O s13,O sZ,O s15,O s16,O uo,O uG,Z I vB,Z I s20,Z I vw,Z I sV,Z I K9,Z I s24]:Array Value).all (·.oneCell')=true:=by simp [Value.oneCell']
  have hic:(Tryz.prog.info? 45).map (·.size)=some (#[O s1,O s2,O s3,O s4,O s5,O s6,O s7,O s8,O s9,O s10,Z I s11,Z I s12,O s13,O sZ,O s15,O s16,O uo,O uG,Z I vB,Z I s20,Z I vw,Z I sV,Z I K9,Z I s24]:Array Value).size:=by kernel_rfl
  go_wp2_with (refine wpList_store_row rfl 45 (.tmp 2) (.tmp 6) rfl w.heap.size #[O s1,O s2,O s3,O s4,O s5,O s6,O s7,O s8,O s9,O s10,Z I s11,Z I s12,O s13,O sZ,O s15,O s16,O uo,O uG,Z I vB,Z I s20,Z I vw,Z I sV,Z I K9,Z I s24] rfl rfl 45 #[O ⟨#[]⟩,O ⟨#[]⟩,O ⟨#[]⟩,O ⟨#[]⟩,O ⟨#[]⟩,O ⟨#[]⟩,O ⟨#[]⟩,O ⟨#[]⟩,O ⟨#[]⟩,O ⟨#[]⟩,Z I 0,Z I 0,O ⟨#[]⟩,O ⟨#[]⟩,O ⟨#[]⟩,O ⟨#[]⟩,O ⟨#[]⟩,O ⟨#[]⟩,Z I 0,Z I 0,Z I 0,Z I 0,Z I 0,Z I 0] Yl.out hic rfl h1c ?_)
  refine leaves_cons (f:=67) (args:=#[ay (some ⟨w.heap.size,0,none⟩),ay (some ⟨w.heap.size+1,0,none⟩)]) zi (by simp [go_sem]) ?_;refine (Nf _ _ _).mono ?_;rintro e u' w'' ⟨rfl,rfl,rfl⟩;exact ⟨_,fA rfl rfl rfl (VX Od.out) (jF HX4.out),HBW.out,.inl ⟨rfl,rfl⟩⟩
 ·replace hx1:=hx1.later hb1;replace hx2:=hx2.later hb1
  change bodyPostD _ _ _ (Exit.panic [{ v:=.iface 101 (aB #[Z I k]),recovered:=false }]) _ _
  refine leaves_cons (f:=67) (args:=#[ay (some ⟨w.heap.size,0,none⟩),ay (some ⟨w.heap.size+1,0,none⟩)]) zi (by simp [go_sem]) ?_;refine (ax6 w.heap.size (w.heap.size+1) _ _ _ _ _ _ _ _ _ _ _ _ _ _ _ _ _ _ _ _ _ _ _ _ _ k _ hx1 hx2).mono ?_;rintro e u' w'' ⟨rfl,rfl,hy1,hy2,hbb⟩;exact ⟨_,fA rfl rfl rfl (VX hy1) (jF hy2),hbb w (aC _) zo (Bt hb0 hb1),.inr ⟨h,rfl⟩⟩
end Go.Proofs.view
namespace Go.Proofs.view
open Go Go.RowKit Go.SW Go.Num Go.Mem Go.Proofs Go.fG Go.Fx
theorem Qz {p x y k:Int} (hx:iD (LC p) (x,y) k) (w:World) (ht:ko.Pow w) (he:whole.Er w):Calls Tryz.prog 27 #[Z I p] w (Try w (aB #[Z I x,Z I y]) k):=by
 unfold LC at hx;refine Fx.door Tryz.func27 rfl (.nil w []) ?_;have HR:=hx;refine Fx.bK [] 2 26 [] [] fun iB=>?_;obtain ⟨⟨x2,y2⟩,k2,EX,HN⟩:=aG HR;refine Fx.call [] 5 [] [] (fun W M=>ay3 EX _) ?_;refine Fx.dD iN [] 8 [] [] (fun W M=>iK (x:=x2) (y:=y2) _) HN fun _ HR=>?_;refine Fx.bK [] 3 26 [] [] fun yX=>?_;refine Fx.draw [4] [0,5,1,2,3,4,6,7,8,9,10,11,12,13,14] [] [] [(1,#[Z I x2,Z I y2])] ?_;obtain ⟨⟨x5,y5⟩,k5,EX,HN⟩:=aG HR;refine Fx.call [4,4] 10 [(14,aB #[Z I x2,Z I y2])] [] (fun W M=>Km EX _) ?_;refine Fx.dD iN [] 13 [] [] (fun W M=>iK (x:=x5) (y:=y5) _) HN fun _ HR=>?_;obtain ⟨⟨s7,t7⟩,_,EX,HN⟩:=aG HR;refine Fx.dD iN [] 15 [] [] (fun W M=>jE (iD.of EX) _ (ht.later M.below)) HN fun _ HR=>?_;obtain ⟨⟨x8,y8⟩,_,EX,HN⟩:=aG HR
 refine Fx.dD iN [] 16 [] [] (fun W M=>oh (iD.of EX) _ (ht.later M.below) (he.later M.below)) HN fun _ HR=>?_;refine Fx.newS [] 17 1 1 #[Z I x8,Z I y8] 26 [] [] fun bz9=>?_;obtain ⟨⟨x10,y10⟩,_,EX,HN⟩:=aG HR;refine Fx.dD iN [] 18 [] [] (fun W M=>UE (iD.of EX) _ (M.box (b:=bz9) (cs:=#[Z I x8,Z I y8]) 2)) HN fun _ HR=>?_;obtain ⟨⟨x11,y11⟩,k11,EX,HN⟩:=aG HR;refine Fx.call [] 19 [] [] (fun W M=>aL9 EX _) ?_;refine Fx.dD iN [] 22 [] [] (fun W M=>iK (x:=x11) (y:=y11) _) HN fun _ HR=>?_;obtain ⟨hk,hv⟩:=HR;cases hk
 exact Fx.mU (cs:=#[Z I x11,Z I y11]) 0 iB [3] [(0,#[Z I x11,Z I y11])] (fun W M=>⟨M.below,.inl ⟨rfl,by cases hv rfl;rfl⟩⟩)
theorem N7 {a b c d:Int} {bf bg:Nat} {x y k:Int} (hx:iD (Hw (a,b) (c,d)) (x,y) k) (w:World) (hf:aA w bf #[Z I a,Z I b] 26) (hg:aA w bg #[Z I c,Z I d] 26) (ht:ko.Pow w) (he:whole.Er w) :
  Calls Tryz.prog 20 #[ay (some ⟨bf,0,none⟩),ay (some ⟨bg,0,none⟩)] w (Try w (aB #[Z I x,Z I y]) k):=by
 unfold Hw at hx;refine Fx.door Tryz.func20 rfl (.ro hf (.ro hg (.nil w []))) ?_;have HR:=hx;refine Fx.bK [] 2 26 [] [] fun iB=>?_;refine Fx.call [3] 5 [] [] (fun W M=>fB.kI a b _) ?_;obtain ⟨_,k2,EX,HN⟩:=aG HR;refine Fx.dD iN [] 6 [] [] (fun W M=>kP (iD.of EX) _) HN fun h0 HR=>?_;subst h0;refine Fx.call [4] 8 [] [] (fun W M=>fB.kI c d _) ?_;obtain ⟨_,k3,EX,HN⟩:=aG HR;refine Fx.dD iN [] 9 [] [] (fun W M=>kP (iD.of EX) _) HN fun h0 HR=>?_;subst h0;refine Fx.part 8 [3] [(12,ak (decide (a<0)))] [] ?_;refine Fx.splitB (fun hf1=>?_) (fun hf1=>?_)
 ·skip
  replace HR:=iD.pos HR (of_decide_eq_true hf1);obtain ⟨_,k4,EX,HN⟩:=aG HR;refine Fx.dD iN [0,1] 18 [] [] (fun W M=>kP (iD.of EX) _) HN fun h0 HR=>?_;subst h0;exact absurd (show (2:Int)=0 from congrArg Prod.snd EX) zd
 ·skip
  replace HR:=iD.neg HR (of_decide_eq_false hf1);refine Fx.part 4 [4] [(16,ak (decide (c<0))),(13,ak false)] [] ?_;refine Fx.splitB (fun hf2=>?_) (fun hf2=>?_)
  ·skip
   replace HR:=iD.pos HR (of_decide_eq_true hf2);obtain ⟨_,k5,EX,HN⟩:=aG HR;refine Fx.dD iN [1] 18 [] [] (fun W M=>kP (iD.of EX) _) HN fun h0 HR=>?_;subst h0;exact absurd (show (2:Int)=0 from congrArg Prod.snd EX) zd
  ·skip
   replace HR:=iD.neg HR (of_decide_eq_false hf2);obtain ⟨⟨x6,y6⟩,k6,EX,HN⟩:=aG HR;refine Fx.call [2,3,4] 21 [] [] (fun W M=>Rs EX _) ?_;refine Fx.dD iN [] 24 [] [] (fun W M=>iK (x:=x6) (y:=y6) _) HN fun h0 HR=>?_;subst h0;obtain ⟨⟨x8,y8⟩,k8,EX,HN⟩:=aG HR;refine Fx.call [] 25 [] [] (fun W M=>ay2 EX _ (ht.later M.below) (he.later M.below)) ?_;refine Fx.dD iN [] 28 [] [] (fun W M=>iK (x:=x8) (y:=y8) _) HN fun h0 HR=>?_;subst h0;refine Fx.bK [] 3 26 [] [] fun ab9=>?_;refine Fx.draw [6] [0,1,4,5,2,3,6,7,8,9,10,11,12] [] [] [(3,#[Z I x8,Z I y8])] ?_;obtain ⟨⟨x11,y11⟩,k11,EX,HN⟩:=aG HR;refine Fx.dD iN [6,6] 31 [(34,Z I y8)] [] (fun W M=>Qz (iD.of EX) _ (ht.later M.below) (he.later M.below)) HN fun h0 HR=>?_;subst h0;obtain ⟨⟨x12,y12⟩,k12,EX,HN⟩:=aG HR
   refine Fx.dD iN [] 35 [(32,Z I x11)] [] (fun W M=>Qz (iD.of EX) _ (ht.later M.below) (he.later M.below)) HN fun h0 HR=>?_;subst h0;obtain ⟨⟨Qi,y13⟩,k13,EX,HN⟩:=aG HR;refine Fx.call [] 37 [] [] (fun W M=>aY5 EX _) ?_;refine Fx.dD iN [] 40 [] [] (fun W M=>iK (x:=Qi) (y:=y13) _) HN fun h0 HR=>?_;subst h0;obtain ⟨hk,hv⟩:=HR;cases hk
   exact Fx.mU (cs:=#[Z I Qi,Z I y13]) 2 iB [5] [(2,#[Z I Qi,Z I y13])] (fun W M=>⟨M.below,.inl ⟨rfl,by cases hv rfl;rfl⟩⟩)
theorem aJ4 {f:FuncId} {args:Array Value} {w:World} {r:(Int × Int) × Int} {x y k:Int} (C:Calls Tryz.prog f args w (Qg w (aB #[Z I r.1.1,Z I r.1.2]) (aB #[Z I 0,Z I 0]) r.2)) (h:cl (0,0) r=((x,y),k)) :
  Calls Tryz.prog f args w (fun e w'=>e= aj (aD #[aB #[Z I x,Z I y],Z I k])∧Bw w w'):=C.mono fun _ _ ⟨hb,hh⟩=>by
 unfold cl at h
 rcases hh with ⟨h1,rfl⟩|⟨h1,rfl⟩
 ·rw [if_pos h1] at h;obtain ⟨⟨r1,r2⟩,r3⟩:=r;cases h
  cases h1
  exact ⟨rfl,hb⟩
 ·rw [if_neg h1] at h;cases h
  exact ⟨rfl,hb⟩
theorem pI {a b c d x y k:Int} (hx:Py (a,b) (c,d)=((x,y),k)) (w:World) (ht:ko.Pow w) (he:whole.Er w) :
  Calls Tryz.prog 9 #[aB #[Z I a,Z I b],aB #[Z I c,Z I d]] w (fun e w'=>e= aj (aD #[aB #[Z I x,Z I y],Z I k])∧Bw w w'):=by
 unfold Py at hx;refine Fx.door Tryz.func9 rfl (.nil w []) ?_;refine Fx.new [] 2 #[Z I a,Z I b] 26 [] [] fun iB=>?_;refine Fx.new [] 3 #[Z I c,Z I d] 26 [] [] fun jX=>?_;refine Fx.bK [] 4 26 [] [] fun jN=>?_;refine Fx.call [] 7 [] [] (fun W M=>aJ4 (F8 W (fun V hV=>N7 ⟨rfl,fun _=>rfl⟩ V ((M.box (b:=iB) 0).later hV) ((M.box (b:=jX) 1).later hV) (ht.later (Bt M.below hV)) (he.later (Bt M.below hV))) (fun args W=>by kernel_rfl)) hx) ?_;exact Fx.jm 2 jN [5] [(2,#[Z I x,Z I y])] (fun W M=>⟨rfl,M.below⟩)
theorem Ih {f1 f2 n1 n2 c1 c2 m1 m2 d1 d2 g1 g2 g3 g4 g5 g6:ByteArray} {nu de v1 v2 p1 p2 q1 q2:Int} {r1 r2 s1 s2 t1 t2:Int} {bd br:Nat} {x y k:Int} (hx:iD (Xx (p1,p2) (r1,r2) (s1,s2) (t1,t2)) (x,y) k) (w:World) (hd:aA w bd #[O f1,O f2,O n1,O n2,O c1,O c2,O m1,O m2,O d1,O d2,Z I nu,Z I de,O g1,O g2,O g3,O g4,O g5,O g6,Z I v1,Z I v2,Z I p1,Z I p2,Z I q1,Z I q2] 45) (hr:aA w br #[Z I r1,Z I r2,Z I s1,Z I s2,Z I t1,Z I t2] 57) :
  Calls Tryz.prog 42 #[ay (some ⟨bd,0,none⟩),ay (some ⟨br,0,none⟩)] w (Try w (aB #[Z I x,Z I y]) k):=by
 unfold Xx at hx;refine Fx.door Tryz.func42 rfl (.ro hd (.ro hr (.nil w []))) ?_;have HR:=hx;refine Fx.bK [] 2 26 [] [] fun iB=>?_;refine Fx.call [3] 8 [] [] (fun W M=>fB.kI p1 p2 _) ?_;obtain ⟨_,_,EX,HN⟩:=aG HR;refine Fx.dD iN [] 9 [] [] (fun W M=>kP (iD.of EX) _) HN fun _ HR=>?_;refine Fx.call [1,4] 16 [(10,Z I 0)] [] (fun W M=>fB.kI r1 r2 _) ?_;obtain ⟨_,_,EX,HN⟩:=aG HR;refine Fx.dD iN [] 17 [] [] (fun W M=>kP (iD.of EX) _) HN fun _ HR=>?_;refine Fx.call [1,4] 16 [(10,Z I 1)] [] (fun W M=>fB.kI s1 s2 _) ?_;obtain ⟨_,_,EX,HN⟩:=aG HR;refine Fx.dD iN [] 17 [] [] (fun W M=>kP (iD.of EX) _) HN fun _ HR=>?_;refine Fx.call [1,4] 16 [(10,Z I 2)] [] (fun W M=>fB.kI t1 t2 _) ?_;obtain ⟨_,_,EX,HN⟩:=aG HR;refine Fx.dD iN [] 17 [] [] (fun W M=>kP (iD.of EX) _) HN fun _ HR=>?_
 obtain ⟨⟨x6,y6⟩,k6,EX,HN⟩:=aG HR;refine Fx.call [2,4] 21 [(10,Z I 3)] [] (fun W M=>Km EX _) ?_;refine Fx.dD iN [] 24 [] [] (fun W M=>iK (x:=x6) (y:=y6) _) HN fun _ HR=>?_;refine Fx.bK [] 4 26 [] [] fun bz8=>?_;obtain ⟨⟨x9,y9⟩,k9,EX,HN⟩:=aG HR;refine Fx.call [6,4] 27 [] [(3,#[Z I x6,Z I y6])] (fun W M=>Km EX _) ?_;refine Fx.dD iN [] 30 [] [] (fun W M=>iK (x:=x9) (y:=y9) _) HN fun _ HR=>?_;refine Fx.bK [] 5 26 [] [] fun ab8=>?_;refine Fx.draw [7] [0,1,2,3,6,7,4,5,8,9,10,11,12] [] [] [(4,#[Z I x9,Z I y9])] ?_;refine Fx.newS [6,4,7,3] 35 2 2 #[Z I s1,Z I s2,Z I x9,Z I y9] 26 [(31,aB #[Z I x6,Z I y6]),(38,aB #[Z I p1,Z I p2])] [] fun ab7=>?_;obtain ⟨⟨Qi,y13⟩,_,EX,HN⟩:=aG HR
 refine Fx.dD iN [] 36 [] [] (fun W M=>an5 (iD.of EX) _ (M.box (b:=ab7) (cs:=#[Z I s1,Z I s2,Z I x9,Z I y9]) 5)) HN fun _ HR=>?_;obtain ⟨⟨x14,y14⟩,k14,EX,HN⟩:=aG HR;refine Fx.call [] 39 [] [] (fun W M=>Rs EX _) ?_;refine Fx.dD iN [] 42 [] [] (fun W M=>iK (x:=x14) (y:=y14) _) HN fun _ HR=>?_;obtain ⟨hk,hv⟩:=HR;cases hk
 exact Fx.mU (cs:=#[Z I x14,Z I y14]) 2 iB [5] [(2,#[Z I x14,Z I y14])] (fun W M=>⟨M.below,.inl ⟨rfl,by cases hv rfl;rfl⟩⟩)
theorem yw {f1 f2 n1 n2 c1 c2 m1 m2 d1 d2 g1 g2 g3 g4 g5 g6:ByteArray} {nu de v1 v2 p1 p2 q1 q2:Int} {r1 r2 s1 s2 t1 t2 x y k:Int} (hx:TK (p1,p2) (r1,r2) (s1,s2) (t1,t2)=((x,y),k)) (w:World) :
  Calls Tryz.prog 17 #[aB #[O f1,O f2,O n1,O n2,O c1,O c2,O m1,O m2,O d1,O d2,Z I nu,Z I de,O g1,O g2,O g3,O g4,O g5,O g6,Z I v1,Z I v2,Z I p1,Z I p2,Z I q1,Z I q2],aB #[Z I r1,Z I r2,Z I s1,Z I s2,Z I t1,Z I t2]] w (fun e w'=>e= aj (aD #[aB #[Z I x,Z I y],Z I k])∧Bw w w'):=by
 unfold TK at hx;refine Fx.door Tryz.func17 rfl (.nil w []) ?_;refine Fx.new [] 2 #[O f1,O f2,O n1,O n2,O c1,O c2,O m1,O m2,O d1,O d2,Z I nu,Z I de,O g1,O g2,O g3,O g4,O g5,O g6,Z I v1,Z I v2,Z I p1,Z I p2,Z I q1,Z I q2] 45 [] [] fun iB=>?_;refine Fx.new [] 3 #[Z I r1,Z I r2,Z I s1,Z I s2,Z I t1,Z I t2] 57 [] [] fun jX=>?_;refine Fx.bK [] 4 26 [] [] fun jN=>?_
 refine Fx.call [] 7 [] [] (fun W M=>aJ4 (F8 W (fun V hV=>Ih (f1:=f1) (f2:=f2) (n1:=n1) (n2:=n2) (c1:=c1) (c2:=c2) (m1:=m1) (m2:=m2) (d1:=d1) (d2:=d2) (g1:=g1) (g2:=g2) (g3:=g3) (g4:=g4) (g5:=g5) (g6:=g6) (nu:=nu) (de:=de) (v1:=v1) (v2:=v2) (q1:=q1) (q2:=q2) ⟨rfl,fun _=>rfl⟩ V ((M.box (b:=iB) 0).later hV) ((M.box (b:=jX) 1).later hV)) (fun args W=>by kernel_rfl)) hx) ?_;exact Fx.jm 2 jN [5] [(2,#[Z I x,Z I y])] (fun W M=>⟨rfl,M.below⟩)
end Go.Proofs.view
namespace Go.Proofs.view
open Go Go.RowKit Go.Num Go.Mem Go.Proofs Go.fG
theorem Qy {q:Rat} {r:Fr} (h:wr q=(r,0)):rd r=some q:=by
 unfold wr at h;split at h
 ·rename_i hk;rw [← show Fr.of q=r from congrArg Prod.fst h];exact je hk
 ·exact absurd (show (6:Int)=0 from congrArg Prod.snd h) zd
theorem U9 {f:Rat→Rat→Fr × Int} {a b r:Fr} (h:bin f a b=(r,0)):∃ p q,rd a=some p∧rd b=some q∧f p q=(r,0):=by
 unfold bin at h;split at h
 ·rename_i p q h1 h2;exact ⟨p,q,h1,h2,h⟩
 ·exact absurd (show (20:Int)=0 from congrArg Prod.snd h) zd
theorem JD {n d:Int} {r:Fr} (h:lI n d=(r,0)):rd r=some ((n:Rat) / (d:Rat)):=by
 unfold lI at h;split at h
 ·exact absurd (show (7:Int)=0 from congrArg Prod.snd h) zd
 ·exact Qy h
theorem YU {a b r:Fr} {p q:Rat} (h:nP a b=(r,0)) (ha:rd a=some p) (hb:rd b=some q):rd r=some (p / q):=by
 obtain ⟨p',q',h1,h2,h3⟩:=U9 h;rw [ha] at h1;rw [hb] at h2;cases h1
 cases h2
 split at h3
 ·exact absurd (show (7:Int)=0 from congrArg Prod.snd h3) zd
 ·exact Qy h3
theorem U8 {g:Rat→Rat→Rat} {a b r:Fr} {p q:Rat} (h:bin (fun p q=>wr (g p q)) a b=(r,0)) (ha:rd a=some p) (hb:rd b=some q):rd r=some (g p q):=by
 obtain ⟨p',q',h1,h2,h3⟩:=U9 h;rw [ha] at h1;rw [hb] at h2;cases h1
 cases h2
 exact Qy h3
theorem YT {a r:Fr} {n:Nat} {p:Rat} (h:JI a n=(r,0)) (ha:rd a=some p):rd r=some (p^n):=by
 unfold JI at h;rw [ha] at h;exact Qy h
theorem af4 {la one v five p k:Fr} {q:Rat} (hl:rd la=some q) (E1:lI 1 1=(one,0)) (E2:lI 5 1=(v,0)) (E4:pO v la=(five,0)) (E6:wS five one=(p,0)) (E8:nP one p=(k,0)):rd k=some (1 / (5*q+1)):=by
 have r1:=JD E1;have r2:=JD E2;have r4:=U8 E4 r2 hl;have r6:=U8 E6 r4 r1;have r8:=YU E8 r1 r6;have e1:((1:Int):Rat) / ((1:Int):Rat)=1:=by decide+kernel
 have e5:((5:Int):Rat) / ((1:Int):Rat)=5:=by decide+kernel
 rw [e1,e5] at r8;exact r8
theorem z8 {q:Rat} (h:1≤q):0≤1 / (5*q+1)∧1 / (5*q+1)≤1:=by
 have h1:(1:Rat)≤5*q+1:=by grind
 have h0:(0:Rat)<5*q+1:=Std.lt_of_lt_of_le (by decide+kernel) h1;have i0:=Rat.le_of_lt (Rat.inv_pos.2 h0);rw [Rat.div_def,Rat.one_mul];refine ⟨i0,?_⟩;have:=fB.Bn (show (0:Rat)<1 by decide+kernel) h1;have e:(1:Rat)⁻¹=1:=by decide+kernel
 rw [e] at this;exact this
theorem Iz {k:Rat} (h0:0≤k) (h1:k≤1):0≤k^4∧k^4≤1:=by
 have s0:0≤k*k:=Rat.mul_nonneg h0 h0;have s1:k*k≤1:=Rat.le_trans (Rat.mul_le_mul_of_nonneg_left h1 h0) (by grind);have e:k^4=k*k*(k*k):=by grind
 rw [e];exact ⟨Rat.mul_nonneg s0 s0,Rat.le_trans (Rat.mul_le_mul_of_nonneg_left s1 s0) (by grind)⟩
theorem aF2 {la one v five p k:Fr} (hl:∃ q,rd la=some q∧1≤q) (E1:lI 1 1=(one,0)) (E2:lI 5 1=(v,0)) (E4:pO v la=(five,0)) (E6:wS five one=(p,0)) (E8:nP one p=(k,0)):∃ q,rd k=some q∧0≤q:=by
 obtain ⟨q,hq,h1⟩:=hl;exact ⟨_,af4 hq E1 E2 E4 E6 E8,(z8 h1).1⟩
theorem aF1 {la one v five p k k4 s:Fr} (hl:∃ q,rd la=some q∧1≤q) (E1:lI 1 1=(one,0)) (E2:lI 5 1=(v,0)) (E4:pO v la=(five,0)) (E6:wS five one=(p,0)) (E8:nP one p=(k,0)) (E10:JI k 4=(k4,0)) (E14:yE one k4=(s,0)):∃ q,rd s=some q∧0≤q:=by
 obtain ⟨q,hq,h1⟩:=hl;have r:=U8 E14 (JD E1) (YT E10 (af4 hq E1 E2 E4 E6 E8));have e1:((1:Int):Rat) / ((1:Int):Rat)=1:=by decide+kernel
 rw [e1] at r;have:=Iz (z8 h1).1 (z8 h1).2;refine ⟨_,r,?_⟩;have h2:=this.2;generalize (1 / (5*q+1))^4=z at *
 grind
theorem ay8 {la lo hi:Fr} {b:Bool} (h1:lI 1 1=(lo,0)) (h3:PN la lo hi=(b,0)) (hb:b=true):∃ q,rd la=some q∧1≤q:=by
 unfold PN at h3;obtain ⟨c,hc,h⟩:=gL h3;have r:=JD h1;have e1:((1:Int):Rat) / ((1:Int):Rat)=1:=by decide+kernel
 rw [e1] at r;unfold tQ at hc;cases hr:rd la with
 | none=>rw [hr] at hc;exact absurd (show (20:Int)=0 from congrArg Prod.snd hc) zd
 | some q =>
  refine ⟨q,rfl,?_⟩;rw [hr,r] at hc;have hc:=congrArg Prod.fst hc;simp only at hc;split at h
  ·rename_i h0;subst hc;unfold gZ at h0;split at h0
   ·omega
   ·rename_i h2;exact Rat.not_lt.1 h2
  ·rw [← CY h] at hb;cases hb
end Go.Proofs.view
namespace Go.Proofs.view
open Go Go.RowKit Go.SW Go.Num Go.Mem Go.Proofs Go.fG Go.Fx
theorem Xe {a1 a2 a3 a4 a5 a6 l1 l2 y1 y2 r1 r2 r3 r4 r5 r6:ByteArray} {e1 e2 e3 e4 e5 s:Int} {u1 u2 z1 z2:ByteArray} {k:Int} (hx:iD (Xf ⟨l1,l2⟩ ⟨u1,u2⟩) ⟨z1,z2⟩ k) (w:World) (ht:ko.Pow w):Calls Tryz.prog 79 #[aB #[Z I e1,Z I e2,Z I e3,Z I e4,Z I e5,O a1,O a2,O a3,O a4,O a5,O a6,O l1,O l2,O y1,O y2,Z I s,O r1,O r2,O r3,O r4,O r5,O r6],aB #[O u1,O u2]] w (Try w (aB #[O z1,O z2]) k):=by
 unfold Xf at hx;refine Fx.door Tryz.func79 rfl (.nil w []) ?_;have HR:=hx;refine Fx.new [] 2 #[Z I e1,Z I e2,Z I e3,Z I e4,Z I e5,O a1,O a2,O a3,O a4,O a5,O a6,O l1,O l2,O y1,O y2,Z I s,O r1,O r2,O r3,O r4,O r5,O r6] 76 [] [] fun iB=>?_;refine Fx.new [] 3 #[O u1,O u2] 38 [] [] fun jX=>?_;refine Fx.bK [] 4 38 [] [] fun jN=>?_;obtain ⟨⟨s4,t4⟩,_,EX,HN⟩:=aG HR;refine Fx.dD iN [] 7 [] [] (fun W M=>jE (iD.of EX) _ (ht.later M.below)) HN fun _ HR=>?_;refine Fx.bK [] 5 38 [] [] fun PL=>?_;refine Fx.draw [6] (dB 15) [] [] [(3,#[O s4,O t4])] ?_;obtain ⟨⟨s6,t6⟩,_,EX,HN⟩:=aG HR
 refine Fx.dD iN [6,3] 12 [(8,aB #[O s4,O t4]),(11,aB #[O l1,O l2])] [] (fun W M=>jE (iD.of EX) _ (ht.later M.below)) HN fun _ HR=>?_;obtain ⟨⟨s7,t7⟩,k7,EX,HN⟩:=aG HR;refine Fx.call [] 13 [] [] (fun W M=>Xq EX _ (ht.later M.below)) ?_;refine Fx.dD iN [] 16 [] [] (fun W M=>iV (s:=s7) (t:=t7) _) HN fun _ HR=>?_;obtain ⟨⟨s9,t9⟩,k9,EX,HN⟩:=aG HR;refine Fx.call [] 17 [] [] (fun W M=>aM0 EX _ (ht.later M.below)) ?_;refine Fx.dD iN [] 20 [] [] (fun W M=>iV (s:=s9) (t:=t9) _) HN fun _ HR=>?_;refine Fx.iU [] 6 38 [] [] fun ab8=>?_;refine Fx.draw [7] [1,0,2,3,4,5,6] [] [] [(4,#[O s9,O t9])] ?_;obtain ⟨⟨s12,t12⟩,_,EX,HN⟩:=aG HR;refine Fx.dD iN [7] 21 [(22,aB #[O s9,O t9])] [] (fun W M=>jE (iD.of EX) _ (ht.later M.below)) HN fun _ HR=>?_
 obtain ⟨⟨s13,t13⟩,k13,EX,HN⟩:=aG HR;refine Fx.call [] 23 [] [] (fun W M=>CB EX _ (ht.later M.below)) ?_;refine Fx.dD iN [] 26 [] [] (fun W M=>iV (s:=s13) (t:=t13) _) HN fun _ HR=>?_;refine Fx.draw [7] [1,0,2,3,4,5,6] [] [] [(4,#[O s13,O t13])] ?_;obtain ⟨⟨s15,t15⟩,_,EX,HN⟩:=aG HR;refine Fx.dD iN [7] 27 [(28,aB #[O s13,O t13])] [] (fun W M=>jE (iD.of EX) _ (ht.later M.below)) HN fun _ HR=>?_;obtain ⟨⟨s16,t16⟩,k16,EX,HN⟩:=aG HR;refine Fx.call [] 29 [] [] (fun W M=>Xq EX _ (ht.later M.below)) ?_;refine Fx.dD iN [] 32 [] [] (fun W M=>iV (s:=s16) (t:=t16) _) HN fun _ HR=>?_;refine Fx.draw [7] (dB 12) [] [] [(4,#[O s16,O t16])] ?_;obtain ⟨⟨uG,t18⟩,k18,EX,HN⟩:=aG HR;refine Fx.call [4,6,7] 36 [(33,aB #[O u1,O u2])] [] (fun W M=>aL7 EX _ (ht.later M.below)) ?_
 refine Fx.dD iN [] 39 [] [] (fun W M=>iV (s:=uG) (t:=t18) _) HN fun _ HR=>?_;obtain ⟨⟨s20,t20⟩,k20,EX,HN⟩:=aG HR;refine Fx.call [] 40 [] [] (fun W M=>CB EX _ (ht.later M.below)) ?_;refine Fx.dD iN [] 43 [] [] (fun W M=>iV (s:=s20) (t:=t20) _) HN fun _ HR=>?_;obtain ⟨hk,hv⟩:=HR;cases hk
 exact Fx.mU (cs:=#[O s20,O t20]) 2 jN [5] [(2,#[O s20,O t20])] (fun W M=>⟨M.below,.inl ⟨rfl,by cases hv rfl;rfl⟩⟩)
theorem Zx {a1 a2 a3 a4 a5 a6 l1 l2 y1 y2 r1 r2 r3 r4 r5 r6:ByteArray} {e1 e2 e3 e4 e5 s:Int} {x y k:Int} (hx:iD (O4 ⟨l1,l2⟩) (x,y) k) (w:World) (ht:ko.Pow w) (he:whole.Er w) (hl:∃ q,rd ⟨l1,l2⟩=some q∧1≤q):Calls Tryz.prog 82 #[aB #[Z I e1,Z I e2,Z I e3,Z I e4,Z I e5,O a1,O a2,O a3,O a4,O a5,O a6,O l1,O l2,O y1,O y2,Z I s,O r1,O r2,O r3,O r4,O r5,O r6]] w (Try w (aB #[Z I x,Z I y]) k):=by
 unfold O4 at hx;refine Fx.door Tryz.func82 rfl (.nil w []) ?_;have HR:=hx;refine Fx.new [] 1 #[Z I e1,Z I e2,Z I e3,Z I e4,Z I e5,O a1,O a2,O a3,O a4,O a5,O a6,O l1,O l2,O y1,O y2,Z I s,O r1,O r2,O r3,O r4,O r5,O r6] 76 [] [] fun iB=>?_;refine Fx.bK [] 2 26 [] [] fun jX=>?_;obtain ⟨⟨s3,t3⟩,k3,EX,HN⟩:=aG HR;refine Fx.dD iN [] 11 [] [] (fun W M=>jE (iD.of EX) _ (ht.later M.below)) HN fun h0 HR=>?_;subst h0;have E1:=EX;refine Fx.bK [] 3 38 [] [] fun yX=>?_;refine Fx.draw [5] [1,2,3,0,4,5,6,7,8,9] [] [] [(2,#[O s3,O t3])] ?_;obtain ⟨⟨s5,t5⟩,k5,EX,HN⟩:=aG HR;refine Fx.dD iN [3] 12 [(15,aB #[O l1,O l2])] [] (fun W M=>jE (iD.of EX) _ (ht.later M.below)) HN fun h0 HR=>?_;subst h0;have E2:=EX
 obtain ⟨⟨s6,t6⟩,k6,EX,HN⟩:=aG HR;refine Fx.call [] 16 [] [] (fun W M=>CB EX _ (ht.later M.below)) ?_;refine Fx.dD iN [] 19 [] [] (fun W M=>iV (s:=s6) (t:=t6) _) HN fun h0 HR=>?_;subst h0;have E4:=EX;refine Fx.iU [] 4 38 [] [] fun bz8=>?_;refine Fx.draw [6] (dB 13) [] [] [(3,#[O s6,O t6])] ?_;obtain ⟨⟨s9,t9⟩,k9,EX,HN⟩:=aG HR;refine Fx.call [5,6,5] 23 [(20,aB #[O s3,O t3])] [] (fun W M=>aM0 EX _ (ht.later M.below)) ?_;refine Fx.dD iN [] 26 [] [] (fun W M=>iV (s:=s9) (t:=t9) _) HN fun h0 HR=>?_;subst h0;have E6:=EX;obtain ⟨⟨s11,t11⟩,k11,EX,HN⟩:=aG HR;refine Fx.call [] 27 [] [] (fun W M=>Xq EX _ (ht.later M.below)) ?_;refine Fx.dD iN [] 30 [] [] (fun W M=>iV (s:=s11) (t:=t11) _) HN fun h0 HR=>?_;subst h0;have E8:=EX;refine Fx.iU [] 5 38 [] [] fun ay5=>?_
 obtain ⟨⟨sZ,t14⟩,k14,EX,HN⟩:=aG HR;refine Fx.call [7,7] 32 [] [(4,#[O s11,O t11])] (fun W M=>aL8 EX _ (ht.later M.below) (aF2 hl E1 E2 E4 E6 E8)) ?_;refine Fx.dD iN [] 35 [] [] (fun W M=>iV (s:=sZ) (t:=t14) _) HN fun h0 HR=>?_;subst h0;have E10:=EX;refine Fx.bK [] 6 38 [] [] fun aM7=>?_;obtain ⟨⟨uo,t17⟩,k17,EX,HN⟩:=aG HR;refine Fx.call [8,8,3] 40 [] [(5,#[O sZ,O t14])] (fun W M=>CB EX _ (ht.later M.below)) ?_;refine Fx.dD iN [] 43 [] [] (fun W M=>iV (s:=uo) (t:=t17) _) HN fun h0 HR=>?_;subst h0;refine Fx.bK [] 7 38 [] [] fun aM6=>?_;obtain ⟨⟨s20,t20⟩,k20,EX,HN⟩:=aG HR;refine Fx.call [9,5,8] 46 [] [(6,#[O uo,O t17])] (fun W M=>aL7 EX _ (ht.later M.below)) ?_;refine Fx.dD iN [] 49 [] [] (fun W M=>iV (s:=s20) (t:=t20) _) HN fun h0 HR=>?_;subst h0;have E14:=EX
 obtain ⟨⟨sV,t22⟩,k22,EX,HN⟩:=aG HR;refine Fx.call [] 50 [] [] (fun W M=>aL8 EX _ (ht.later M.below) (aF1 hl E1 E2 E4 E6 E8 E10 E14)) ?_;refine Fx.dD iN [] 53 [] [] (fun W M=>iV (s:=sV) (t:=t22) _) HN fun h0 HR=>?_;subst h0;refine Fx.bK [] 8 38 [] [] fun aM4=>?_;refine Fx.draw [10] [1,0,2,3,4,5,6,7] [] [] [(7,#[O sV,O t22])] ?_;obtain ⟨⟨s25,t25⟩,k25,EX,HN⟩:=aG HR;refine Fx.dD iN [10] 54 [(55,aB #[O sV,O t22])] [] (fun W M=>jE (iD.of EX) _ (ht.later M.below)) HN fun h0 HR=>?_;subst h0;obtain ⟨⟨s26,t26⟩,k26,EX,HN⟩:=aG HR;refine Fx.call [] 56 [] [] (fun W M=>CB EX _ (ht.later M.below)) ?_;refine Fx.dD iN [] 59 [] [] (fun W M=>iV (s:=s26) (t:=t26) _) HN fun h0 HR=>?_;subst h0;refine Fx.iU [] 9 38 [] [] fun bm6=>?_;obtain ⟨⟨x29,y29⟩,k29,EX,HN⟩:=aG HR
 refine Fx.dD iN [11,6] 61 [] [(8,#[O s26,O t26])] (fun W M=>oh (iD.of EX) _ (ht.later M.below) (he.later M.below)) HN fun h0 HR=>?_;subst h0;obtain ⟨⟨x30,y30⟩,k30,EX,HN⟩:=aG HR;refine Fx.call [] 62 [] [] (fun W M=>ag9 EX _ (ht.later M.below) (he.later M.below)) ?_;refine Fx.dD iN [] 65 [] [] (fun W M=>iK (x:=x30) (y:=y30) _) HN fun h0 HR=>?_;subst h0;refine Fx.bK [] 10 26 [] [] fun bm5=>?_;refine Fx.draw [12] [0,2,4,1,3,5,6,7,8,9,10,11] [] [] [(9,#[Z I x30,Z I y30])] ?_;obtain ⟨⟨x33,y33⟩,k33,EX,HN⟩:=aG HR;refine Fx.dD iN [9,11,12] 67 [(68,aB #[O s26,O t26]),(70,aB #[Z I x30,Z I y30])] [] (fun W M=>oh (iD.of EX) _ (ht.later M.below) (he.later M.below)) HN fun h0 HR=>?_;subst h0;obtain ⟨⟨x34,y34⟩,k34,EX,HN⟩:=aG HR
 refine Fx.dD iN [] 69 [] [] (fun W M=>oh (iD.of EX) _ (ht.later M.below) (he.later M.below)) HN fun h0 HR=>?_;subst h0;obtain ⟨⟨x35,y35⟩,k35,EX,HN⟩:=aG HR;refine Fx.call [] 71 [] [] (fun W M=>Rs EX _) ?_;refine Fx.dD iN [] 74 [] [] (fun W M=>iK (x:=x35) (y:=y35) _) HN fun h0 HR=>?_;subst h0;refine Fx.newS [] 75 1 1 #[Z I x35,Z I y35] 26 [] [] fun aY6=>?_;obtain ⟨⟨x38,y38⟩,k38,EX,HN⟩:=aG HR;refine Fx.dD iN [] 76 [] [] (fun W M=>UE (iD.of EX) _ (M.box (b:=aY6) (cs:=#[Z I x35,Z I y35]) 10)) HN fun h0 HR=>?_;subst h0;obtain ⟨hk,hv⟩:=HR;cases hk
 exact Fx.mU (cs:=#[Z I x38,Z I y38]) 1 jX [4] [(1,#[Z I x38,Z I y38])] (fun W M=>⟨M.below,.inl ⟨rfl,by cases hv rfl;rfl⟩⟩)
theorem az3 {a1 a2 a3 a4 a5 a6 l1 l2 y1 y2 r1 r2 r3 r4 r5 r6:ByteArray} {e1 e2 e3 e4 e5 s:Int} {f1 f2 n1 n2 c1 c2 m1 m2 d1 d2 g1 g2 g3 g4 g5 g6:ByteArray} {nu de v1 v2 p1 p2 q1 q2:Int} {bd br:Nat} {x y k:Int} (hx:iD (Ar ⟨r1,r2⟩ ⟨g1,g2⟩ (v1,v2)) (x,y) k) (w:World) (hd:aA w bd #[Z I e1,Z I e2,Z I e3,Z I e4,Z I e5,O a1,O a2,O a3,O a4,O a5,O a6,O l1,O l2,O y1,O y2,Z I s,O r1,O r2,O r3,O r4,O r5,O r6] 76) (hr:aA w br #[O f1,O f2,O n1,O n2,O c1,O c2,O m1,O m2,O d1,O d2,Z I nu,Z I de,O g1,O g2,O g3,O g4,O g5,O g6,Z I v1,Z I v2,Z I p1,Z I p2,Z I q1,Z I q2] 45) (ht:ko.Pow w) (he:whole.Er w) :
  Calls Tryz.prog 84 #[Z I 0,ay (some ⟨bd,0,none⟩),ay (some ⟨br,0,none⟩)] w (Try w (aB #[Z I x,Z I y]) k):=by
 unfold Ar at hx;refine Fx.door Tryz.func84 rfl (.ro hd (.ro hr (.nil w []))) ?_;have HR:=hx;refine Fx.bK [] 4 26 [] [] fun iB=>?_;refine Fx.draw [] (dB 14) [] [] [] ?_;obtain ⟨⟨s2,t2⟩,k2,EX,HN⟩:=aG HR;refine Fx.call [3,4] 14 [] [] (fun W M=>CB EX _ (ht.later M.below)) ?_;refine Fx.dD iN [] 17 [] [] (fun W M=>iV (s:=s2) (t:=t2) _) HN fun _ HR=>?_;refine Fx.iU [] 5 38 [] [] fun yX=>?_;refine Fx.draw [6] (dB 9) [] [] [(3,#[O s2,O t2])] ?_;obtain ⟨⟨x5,y5⟩,_,EX,HN⟩:=aG HR;refine Fx.dD iN [4,6] 21 [(19,aB #[Z I v1,Z I v2])] [] (fun W M=>oh (iD.of EX) _ (ht.later M.below) (he.later M.below)) HN fun _ HR=>?_;obtain ⟨⟨x6,y6⟩,k6,EX,HN⟩:=aG HR;refine Fx.call [] 22 [] [] (fun W M=>pI EX _ (ht.later M.below) (he.later M.below)) ?_
 refine Fx.dD iN [] 25 [] [] (fun W M=>iK (x:=x6) (y:=y6) _) HN fun _ HR=>?_;obtain ⟨hk,hv⟩:=HR;cases hk
 exact Fx.mU (cs:=#[Z I x6,Z I y6]) 2 iB [5] [(2,#[Z I x6,Z I y6])] (fun W M=>⟨M.below,.inl ⟨rfl,by cases hv rfl;rfl⟩⟩)
theorem az2 {a1 a2 a3 a4 a5 a6 l1 l2 y1 y2 r1 r2 r3 r4 r5 r6:ByteArray} {e1 e2 e3 e4 e5 s:Int} {f1 f2 n1 n2 c1 c2 m1 m2 d1 d2 g1 g2 g3 g4 g5 g6:ByteArray} {nu de v1 v2 p1 p2 q1 q2:Int} {bd br:Nat} {x y k:Int} (hx:iD (Ar ⟨r3,r4⟩ ⟨g3,g4⟩ (v1,v2)) (x,y) k) (w:World) (hd:aA w bd #[Z I e1,Z I e2,Z I e3,Z I e4,Z I e5,O a1,O a2,O a3,O a4,O a5,O a6,O l1,O l2,O y1,O y2,Z I s,O r1,O r2,O r3,O r4,O r5,O r6] 76) (hr:aA w br #[O f1,O f2,O n1,O n2,O c1,O c2,O m1,O m2,O d1,O d2,Z I nu,Z I de,O g1,O g2,O g3,O g4,O g5,O g6,Z I v1,Z I v2,Z I p1,Z I p2,Z I q1,Z I q2] 45) (ht:ko.Pow w) (he:whole.Er w) :
  Calls Tryz.prog 84 #[Z I 1,ay (some ⟨bd,0,none⟩),ay (some ⟨br,0,none⟩)] w (Try w (aB #[Z I x,Z I y]) k):=by
 unfold Ar at hx;refine Fx.door Tryz.func84 rfl (.ro hd (.ro hr (.nil w []))) ?_;have HR:=hx;refine Fx.bK [] 4 26 [] [] fun iB=>?_;refine Fx.draw [] (dB 14) [] [] [] ?_;obtain ⟨⟨s2,t2⟩,k2,EX,HN⟩:=aG HR;refine Fx.call [3,4] 14 [] [] (fun W M=>CB EX _ (ht.later M.below)) ?_;refine Fx.dD iN [] 17 [] [] (fun W M=>iV (s:=s2) (t:=t2) _) HN fun _ HR=>?_;refine Fx.iU [] 5 38 [] [] fun yX=>?_;refine Fx.draw [6] (dB 9) [] [] [(3,#[O s2,O t2])] ?_;obtain ⟨⟨x5,y5⟩,_,EX,HN⟩:=aG HR;refine Fx.dD iN [4,6] 21 [(19,aB #[Z I v1,Z I v2])] [] (fun W M=>oh (iD.of EX) _ (ht.later M.below) (he.later M.below)) HN fun _ HR=>?_;obtain ⟨⟨x6,y6⟩,k6,EX,HN⟩:=aG HR;refine Fx.call [] 22 [] [] (fun W M=>pI EX _ (ht.later M.below) (he.later M.below)) ?_
 refine Fx.dD iN [] 25 [] [] (fun W M=>iK (x:=x6) (y:=y6) _) HN fun _ HR=>?_;obtain ⟨hk,hv⟩:=HR;cases hk
 exact Fx.mU (cs:=#[Z I x6,Z I y6]) 2 iB [5] [(2,#[Z I x6,Z I y6])] (fun W M=>⟨M.below,.inl ⟨rfl,by cases hv rfl;rfl⟩⟩)
theorem az1 {a1 a2 a3 a4 a5 a6 l1 l2 y1 y2 r1 r2 r3 r4 r5 r6:ByteArray} {e1 e2 e3 e4 e5 s:Int} {f1 f2 n1 n2 c1 c2 m1 m2 d1 d2 g1 g2 g3 g4 g5 g6:ByteArray} {nu de v1 v2 p1 p2 q1 q2:Int} {bd br:Nat} {x y k:Int} (hx:iD (Ar ⟨r5,r6⟩ ⟨g5,g6⟩ (v1,v2)) (x,y) k) (w:World) (hd:aA w bd #[Z I e1,Z I e2,Z I e3,Z I e4,Z I e5,O a1,O a2,O a3,O a4,O a5,O a6,O l1,O l2,O y1,O y2,Z I s,O r1,O r2,O r3,O r4,O r5,O r6] 76) (hr:aA w br #[O f1,O f2,O n1,O n2,O c1,O c2,O m1,O m2,O d1,O d2,Z I nu,Z I de,O g1,O g2,O g3,O g4,O g5,O g6,Z I v1,Z I v2,Z I p1,Z I p2,Z I q1,Z I q2] 45) (ht:ko.Pow w) (he:whole.Er w) :
  Calls Tryz.prog 84 #[Z I 2,ay (some ⟨bd,0,none⟩),ay (some ⟨br,0,none⟩)] w (Try w (aB #[Z I x,Z I y]) k):=by
 unfold Ar at hx;refine Fx.door Tryz.func84 rfl (.ro hd (.ro hr (.nil w []))) ?_;have HR:=hx;refine Fx.bK [] 4 26 [] [] fun iB=>?_;refine Fx.draw [] (dB 14) [] [] [] ?_;obtain ⟨⟨s2,t2⟩,k2,EX,HN⟩:=aG HR;refine Fx.call [3,4] 14 [] [] (fun W M=>CB EX _ (ht.later M.below)) ?_;refine Fx.dD iN [] 17 [] [] (fun W M=>iV (s:=s2) (t:=t2) _) HN fun _ HR=>?_;refine Fx.iU [] 5 38 [] [] fun yX=>?_;refine Fx.draw [6] (dB 9) [] [] [(3,#[O s2,O t2])] ?_;obtain ⟨⟨x5,y5⟩,_,EX,HN⟩:=aG HR;refine Fx.dD iN [4,6] 21 [(19,aB #[Z I v1,Z I v2])] [] (fun W M=>oh (iD.of EX) _ (ht.later M.below) (he.later M.below)) HN fun _ HR=>?_;obtain ⟨⟨x6,y6⟩,k6,EX,HN⟩:=aG HR;refine Fx.call [] 22 [] [] (fun W M=>pI EX _ (ht.later M.below) (he.later M.below)) ?_
 refine Fx.dD iN [] 25 [] [] (fun W M=>iK (x:=x6) (y:=y6) _) HN fun _ HR=>?_;obtain ⟨hk,hv⟩:=HR;cases hk
 exact Fx.mU (cs:=#[Z I x6,Z I y6]) 2 iB [5] [(2,#[Z I x6,Z I y6])] (fun W M=>⟨M.below,.inl ⟨rfl,by cases hv rfl;rfl⟩⟩)
theorem ay4 {i:Int} {a1 a2 a3 a4 a5 a6 b1 b2 b3 b4 b5 b6 d1 d2 u1 u2 u3 u4 u5 u6:ByteArray} {k:Int} (hx:adapt.WQ i ⟨⟨a1,a2⟩,⟨a3,a4⟩,⟨a5,a6⟩⟩ ⟨⟨b1,b2⟩,⟨b3,b4⟩,⟨b5,b6⟩⟩ ⟨d1,d2⟩=(⟨⟨u1,u2⟩,⟨u3,u4⟩,⟨u5,u6⟩⟩,k)) (w:World) (ht:ko.Pow w) (hc:adapt.kX w) :
  Calls Tryz.prog 81 #[Z I i,aB #[O a1,O a2,O a3,O a4,O a5,O a6],aB #[O b1,O b2,O b3,O b4,O b5,O b6],aB #[O d1,O d2]] w (fun e w'=>e= aj (aD #[aB #[O u1,O u2,O u3,O u4,O u5,O u6],Z I k])∧Bw w w') :=
 (adapt.XU i ⟨⟨a1,a2⟩,⟨a3,a4⟩,⟨a5,a6⟩⟩ ⟨⟨b1,b2⟩,⟨b3,b4⟩,⟨b5,b6⟩⟩ ⟨d1,d2⟩ w ht hc).mono fun _ _ ⟨hb,e⟩=>by
  unfold adapt.WQ at hx;simp only [fP] at hx;rw [hx.1,hx.2] at e;exact ⟨e,hb⟩
theorem MV {a1 a2 a3 a4 a5 a6 l1 l2 y1 y2 r1 r2 r3 r4 r5 r6:ByteArray} {e1 e2 e3 e4 e5 s:Int} {f1 f2 n1 n2 c1 c2 m1 m2 d1 d2 g1 g2 g3 g4 g5 g6:ByteArray} {nu de v1 v2 p1 p2 q1 q2:Int} {k:Int} (hx:iD (Tw e1 e2 e3 e4 e5 ⟨⟨a1,a2⟩,⟨a3,a4⟩,⟨a5,a6⟩⟩ ⟨l1,l2⟩ ⟨y1,y2⟩ ⟨⟨r1,r2⟩,⟨r3,r4⟩,⟨r5,r6⟩⟩) ((⟨f1,f2⟩,⟨n1,n2⟩,⟨c1,c2⟩,⟨m1,m2⟩,⟨d1,d2⟩),(nu,de),⟨⟨g1,g2⟩,⟨g3,g4⟩,⟨g5,g6⟩⟩,(v1,v2),(p1,p2),(q1,q2)) k) (w:World) (ht:ko.Pow w) (he:whole.Er w) (hc:adapt.kX w) (hl:∃ q,rd ⟨l1,l2⟩=some q∧1≤q)
  (h1:0≤e1∧e1≤1000:=by decide) (h2:0≤e2∧e2≤1000:=by decide) (h3:0≤e3∧e3≤1000:=by decide):Calls Tryz.prog 34 #[.agg #[.int .i64 e1,.int .i64 e2,.int .i64 e3,.int .i64 e4,.int .i64 e5,.string a1,.string a2,.string a3,.string a4,.string a5,.string a6,.string l1,.string l2,.string y1,.string y2,.int .i64 s,.string r1,.string r2,.string r3,.string r4,.string r5,.string r6]] w (Try w (.agg #[.string f1,.string f2,.string n1,.string n2,.string c1,.string c2,.string m1,.string m2,.string d1,.string d2,.int .i64 nu,.int .i64 de,.string g1,.string g2,.string g3,.string g4,.string g5,.string g6,.int .i64 v1,.int .i64 v2,.int .i64 p1,.int .i64 p2,.int .i64 q1,.int .i64 q2]) k):=by
 unfold Tw at hx;refine Fx.door Tryz.func34 rfl (.nil w []) ?_;have HR:=hx;refine Fx.new [] 1 #[.int .i64 e1,.int .i64 e2,.int .i64 e3,.int .i64 e4,.int .i64 e5,.string a1,.string a2,.string a3,.string a4,.string a5,.string a6,.string l1,.string l2,.string y1,.string y2,.int .i64 s,.string r1,.string r2,.string r3,.string r4,.string r5,.string r6] 76 [] [] fun iB=>?_;refine Fx.bK [] 2 45 [] [] fun jX=>?_;refine Fx.bK [3] 3 38 [(12,.agg #[.string a3,.string a4])] [] fun jN=>?_;refine Fx.draw [5] [0,1,2,4,5,6,8,9,10,12,13,14,15,20,21,22,23,24,25,3,7,11,16,17,18,19,26,27,28] [] [] [(2,#[.string a3,.string a4])] ?_;obtain ⟨⟨s4,t4⟩,_,EX,HN⟩:=aG HR
 refine Fx.dD iN [3,3,3,3,5,3,3] 16 [(19,.int .i64 e2),(23,.int .i64 e3),(27,.agg #[.string y1,.string y2]),(28,.agg #[.string a3,.string a4]),(35,.int .i64 e4),(38,.int .i64 e5)] [] (fun W M=>jE (iD.of EX) _ (ht.later M.below)) HN fun _ HR=>?_;obtain ⟨⟨s5,t5⟩,_,EX,HN⟩:=aG HR;refine Fx.dD iN [] 20 [] [] (fun W M=>jE (iD.of EX) _ (ht.later M.below)) HN fun _ HR=>?_;obtain ⟨⟨s6,t6⟩,_,EX,HN⟩:=aG HR;refine Fx.dD iN [] 24 [] [] (fun W M=>jE (iD.of EX) _ (ht.later M.below)) HN fun _ HR=>?_;obtain ⟨⟨s7,t7⟩,k7,EX,HN⟩:=aG HR;refine Fx.call [] 29 [] [] (fun W M=>Xq EX _ (ht.later M.below)) ?_;refine Fx.dD iN [] 32 [] [] (fun W M=>iV (s:=s7) (t:=t7) _) HN fun _ HR=>?_
 refine Fx.iU [] 4 45 [(39,.agg #[.string s4,.string t4,.string s5,.string t5,.string s6,.string t6,.string s7,.string t7,.string ⟨#[]⟩,.string ⟨#[]⟩,.int .i64 e4,.int .i64 e5,.string ⟨#[]⟩,.string ⟨#[]⟩,.string ⟨#[]⟩,.string ⟨#[]⟩,.string ⟨#[]⟩,.string ⟨#[]⟩,.int .i64 0,.int .i64 0,.int .i64 0,.int .i64 0,.int .i64 0,.int .i64 0])] [] fun bz9=>?_;obtain ⟨⟨s10,t10⟩,_,EX,HN⟩:=aG HR
 refine Fx.dD (args:=#[.agg #[.int .i64 e1,.int .i64 e2,.int .i64 e3,.int .i64 e4,.int .i64 e5,.string a1,.string a2,.string a3,.string a4,.string a5,.string a6,.string l1,.string l2,.string y1,.string y2,.int .i64 s,.string r1,.string r2,.string r3,.string r4,.string r5,.string r6],.agg #[.string s4,.string t4]]) iN [6,3,6] 43 [] [(3,#[.string s4,.string t4,.string s5,.string t5,.string s6,.string t6,.string s7,.string t7,.string ⟨#[]⟩,.string ⟨#[]⟩,.int .i64 e4,.int .i64 e5,.string ⟨#[]⟩,.string ⟨#[]⟩,.string ⟨#[]⟩,.string ⟨#[]⟩,.string ⟨#[]⟩,.string ⟨#[]⟩,.int .i64 0,.int .i64 0,.int .i64 0,.int .i64 0,.int .i64 0,.int .i64 0])] (fun W M=>Xe (iD.of EX) _ (ht.later M.below)) HN fun _ HR=>?_;obtain ⟨⟨⟨EA,Ep⟩,⟨DZ,DY⟩,⟨DX,DW⟩⟩,k11,EX,HN⟩:=aG HR
 refine Fx.call [6,3,5,5,5,6] 54 [] [(3,#[.string s4,.string t4,.string s5,.string t5,.string s6,.string t6,.string s7,.string t7,.string s10,.string t10,.int .i64 e4,.int .i64 e5,.string ⟨#[]⟩,.string ⟨#[]⟩,.string ⟨#[]⟩,.string ⟨#[]⟩,.string ⟨#[]⟩,.string ⟨#[]⟩,.int .i64 0,.int .i64 0,.int .i64 0,.int .i64 0,.int .i64 0,.int .i64 0])] (fun W M=>ay4 EX _ (ht.later M.below) (hc.later M.below)) ?_;refine Fx.dD iN [] 57 [] [] (fun W M=>Zk (a:=EA) (b:=Ep) (c:=DZ) (d:=DY) (e:=DX) (f:=DW) _) HN fun _ HR=>?_;obtain ⟨⟨Qi,y13⟩,_,EX,HN⟩:=aG HR
 refine Fx.dD (args:=#[.agg #[.int .i64 e1,.int .i64 e2,.int .i64 e3,.int .i64 e4,.int .i64 e5,.string a1,.string a2,.string a3,.string a4,.string a5,.string a6,.string l1,.string l2,.string y1,.string y2,.int .i64 s,.string r1,.string r2,.string r3,.string r4,.string r5,.string r6]]) iN [6,3] 60 [] [(3,#[.string s4,.string t4,.string s5,.string t5,.string s6,.string t6,.string s7,.string t7,.string s10,.string t10,.int .i64 e4,.int .i64 e5,.string EA,.string Ep,.string DZ,.string DY,.string DX,.string DW,.int .i64 0,.int .i64 0,.int .i64 0,.int .i64 0,.int .i64 0,.int .i64 0])] (fun W M=>Zx (iD.of EX) _ (ht.later M.below) (he.later M.below) hl) HN fun _ HR=>?_
 refine Fx.draw [6] [1,2,0,3,4,5,6,7,8,9,10,11,12,13] [] [] [(3,#[.string s4,.string t4,.string s5,.string t5,.string s6,.string t6,.string s7,.string t7,.string s10,.string t10,.int .i64 e4,.int .i64 e5,.string EA,.string Ep,.string DZ,.string DY,.string DX,.string DW,.int .i64 Qi,.int .i64 y13,.int .i64 0,.int .i64 0,.int .i64 0,.int .i64 0])] ?_;obtain ⟨⟨sZ,t14⟩,_,EX,HN⟩:=aG HR;refine Fx.dD iN [6] 62 [(64,.agg #[.string s7,.string t7])] [] (fun W M=>jE (iD.of EX) _ (ht.later M.below)) HN fun _ HR=>?_;obtain ⟨⟨s15,t15⟩,k15,EX,HN⟩:=aG HR;refine Fx.call [] 65 [] [] (fun W M=>Xq EX _ (ht.later M.below)) ?_;refine Fx.dD iN [] 68 [] [] (fun W M=>iV (s:=s15) (t:=t15) _) HN fun _ HR=>?_;obtain ⟨⟨x17,y17⟩,_,EX,HN⟩:=aG HR
 refine Fx.dD iN [] 69 [] [] (fun W M=>oh (iD.of EX) _ (ht.later M.below) (he.later M.below)) HN fun _ HR=>?_;obtain ⟨⟨x18,y18⟩,k18,EX,HN⟩:=aG HR;refine Fx.call [] 70 [] [] (fun W M=>ag9 EX _ (ht.later M.below) (he.later M.below)) ?_;refine Fx.dD iN [] 73 [] [] (fun W M=>iK (x:=x18) (y:=y18) _) HN fun _ HR=>?_;refine Fx.iU [] 5 26 [] [] fun aM5=>?_;refine Fx.draw [7] [2,0,1,3,4,5,6,7,8] [] [] [(4,#[.int .i64 x18,.int .i64 y18])] ?_;obtain ⟨⟨vw,t21⟩,_,EX,HN⟩:=aG HR;refine Fx.dD iN [7] 74 [(76,.agg #[.int .i64 x18,.int .i64 y18])] [] (fun W M=>jE (iD.of EX) _ (ht.later M.below)) HN fun _ HR=>?_;obtain ⟨⟨x22,y22⟩,_,EX,HN⟩:=aG HR;refine Fx.dD iN [] 75 [] [] (fun W M=>oh (iD.of EX) _ (ht.later M.below) (he.later M.below)) HN fun _ HR=>?_;obtain ⟨⟨x23,y23⟩,k23,EX,HN⟩:=aG HR
 refine Fx.call [] 77 [] [] (fun W M=>Rs EX _) ?_;refine Fx.dD iN [] 80 [] [] (fun W M=>iK (x:=x23) (y:=y23) _) HN fun _ HR=>?_;refine Fx.bK [6] 7 57 [(6,.func (.func 84) #[] #[.pointer (some ⟨iB,0,none⟩),.pointer (some ⟨bz9,0,none⟩)])] [(3,#[.string s4,.string t4,.string s5,.string t5,.string s6,.string t6,.string s7,.string t7,.string s10,.string t10,.int .i64 e4,.int .i64 e5,.string EA,.string Ep,.string DZ,.string DY,.string DX,.string DW,.int .i64 Qi,.int .i64 y13,.int .i64 x23,.int .i64 y23,.int .i64 0,.int .i64 0])] fun aM3=>?_;obtain ⟨⟨x26,y26⟩,_,EX,HN⟩:=aG HR
 refine Fx.dD iN [1] 89 [(83,.int .i64 0),(86,.int .i64 0)] [] (fun W M=>az3 (iD.of EX) _ (M.box (b:=iB) (cs:=#[.int .i64 e1,.int .i64 e2,.int .i64 e3,.int .i64 e4,.int .i64 e5,.string a1,.string a2,.string a3,.string a4,.string a5,.string a6,.string l1,.string l2,.string y1,.string y2,.int .i64 s,.string r1,.string r2,.string r3,.string r4,.string r5,.string r6]) 0) (M.box (b:=bz9) (cs:=#[.string s4,.string t4,.string s5,.string t5,.string s6,.string t6,.string s7,.string t7,.string s10,.string t10,.int .i64 e4,.int .i64 e5,.string EA,.string Ep,.string DZ,.string DY,.string DX,.string DW,.int .i64 Qi,.int .i64 y13,.int .i64 x23,.int .i64 y23,.int .i64 0,.int .i64 0]) 3) (ht.later M.below) (he.later M.below)) HN fun _ HR=>?_;obtain ⟨⟨x27,y27⟩,_,EX,HN⟩:=aG HR
 refine Fx.dD iN [8,1] 89 [(83,.int .i64 1),(86,.int .i64 1)] [(5,#[.int .i64 x26,.int .i64 y26,.int .i64 0,.int .i64 0,.int .i64 0,.int .i64 0])] (fun W M=>az2 (iD.of EX) _ (M.box (b:=iB) (cs:=#[.int .i64 e1,.int .i64 e2,.int .i64 e3,.int .i64 e4,.int .i64 e5,.string a1,.string a2,.string a3,.string a4,.string a5,.string a6,.string l1,.string l2,.string y1,.string y2,.int .i64 s,.string r1,.string r2,.string r3,.string r4,.string r5,.string r6]) 0) (M.box (b:=bz9) (cs:=#[.string s4,.string t4,.string s5,.string t5,.string s6,.string t6,.string s7,.string t7,.string s10,.string t10,.int .i64 e4,.int .i64 e5,.string EA,.string Ep,.string DZ,.string DY,.string DX,.string DW,.int .i64 Qi,.int .i64 y13,.int .i64 x23,.int .i64 y23,.int .i64 0,.int .i64 0]) 3) (ht.later M.below) (he.later M.below)) HN fun _ HR=>?_;obtain ⟨⟨x28,y28⟩,_,EX,HN⟩:=aG HR
 refine Fx.dD iN [8,1] 89 [(83,.int .i64 2),(86,.int .i64 2)] [(5,#[.int .i64 x26,.int .i64 y26,.int .i64 x27,.int .i64 y27,.int .i64 0,.int .i64 0])] (fun W M=>az1 (iD.of EX) _ (M.box (b:=iB) (cs:=#[.int .i64 e1,.int .i64 e2,.int .i64 e3,.int .i64 e4,.int .i64 e5,.string a1,.string a2,.string a3,.string a4,.string a5,.string a6,.string l1,.string l2,.string y1,.string y2,.int .i64 s,.string r1,.string r2,.string r3,.string r4,.string r5,.string r6]) 0) (M.box (b:=bz9) (cs:=#[.string s4,.string t4,.string s5,.string t5,.string s6,.string t6,.string s7,.string t7,.string s10,.string t10,.int .i64 e4,.int .i64 e5,.string EA,.string Ep,.string DZ,.string DY,.string DX,.string DW,.int .i64 Qi,.int .i64 y13,.int .i64 x23,.int .i64 y23,.int .i64 0,.int .i64 0]) 3) (ht.later M.below) (he.later M.below)) HN fun _ HR=>?_;obtain ⟨⟨x29,y29⟩,k29,EX,HN⟩:=aG HR
 refine Fx.call (args:=#[.agg #[.string s4,.string t4,.string s5,.string t5,.string s6,.string t6,.string s7,.string t7,.string s10,.string t10,.int .i64 e4,.int .i64 e5,.string EA,.string Ep,.string DZ,.string DY,.string DX,.string DW,.int .i64 Qi,.int .i64 y13,.int .i64 x23,.int .i64 y23,.int .i64 0,.int .i64 0],.agg #[.int .i64 x26,.int .i64 y26,.int .i64 x27,.int .i64 y27,.int .i64 x28,.int .i64 y28]]) [8,2,6,8] 94 [(83,.int .i64 3)] [(5,#[.int .i64 x26,.int .i64 y26,.int .i64 x27,.int .i64 y27,.int .i64 x28,.int .i64 y28])] (fun W M=>yw EX _) ?_;refine Fx.dD iN [] 97 [] [] (fun W M=>iK (x:=x29) (y:=y29) _) HN fun _ HR=>?_;obtain ⟨hk,hv⟩:=HR;cases hk
 exact Fx.mU (cs:=#[.string s4,.string t4,.string s5,.string t5,.string s6,.string t6,.string s7,.string t7,.string s10,.string t10,.int .i64 e4,.int .i64 e5,.string EA,.string Ep,.string DZ,.string DY,.string DX,.string DW,.int .i64 Qi,.int .i64 y13,.int .i64 x23,.int .i64 y23,.int .i64 x29,.int .i64 y29]) 1 jX [6,6,4] [(1,#[.string s4,.string t4,.string s5,.string t5,.string s6,.string t6,.string s7,.string t7,.string s10,.string t10,.int .i64 e4,.int .i64 e5,.string EA,.string Ep,.string DZ,.string DY,.string DX,.string DW,.int .i64 Qi,.int .i64 y13,.int .i64 x23,.int .i64 y23,.int .i64 x29,.int .i64 y29]),(3,#[.string s4,.string t4,.string s5,.string t5,.string s6,.string t6,.string s7,.string t7,.string s10,.string t10,.int .i64 e4,.int .i64 e5,.string EA,.string Ep,.string DZ,.string DY,.string DX,.string DW,.int .i64 Qi,.int .i64 y13,.int .i64 x23,.int .i64 y23,.int .i64 x29,.int .i64 y29])] (fun W M=>⟨M.below,.inl ⟨rfl,by cases hv rfl;rfl⟩⟩)
def TM (w:World) (ad:Addr) (cs:List Value):Prop:=ad.spot=none∧∃ arr,aA w ad.block arr 38∧∀ i v,cs[i]? =some v→arr[ad.off+i]? =some v
theorem TM.keep {l:List TypeId} {w w':World} {ad:Addr} {cs:List Value} (h:TM w ad cs) (k:Kept l w w') (hT:l.contains 38=false:=by kernel_rfl):TM w' ad cs:=by
 obtain ⟨h0,arr,h1,h2⟩:=h;exact ⟨h0,arr,k _ _ _ (Fe hT) h1,h2⟩
theorem TM.cells {w:World} {ad:Addr} {cs:List Value} (h:TM w ad cs):∀ i v,cs[i]? =some v→w.cell? (ad.add i)=some v:=by
 obtain ⟨h0,arr,h1,h2⟩:=h;obtain ⟨b,o,s⟩:=ad;simp only at h0;subst h0;intro i v hv;rw [Addr.add_lit];exact (h1.cell _).trans (h2 i v hv)
theorem _root_.Go.fG.vC.keep {l:List TypeId} {w w':World} {T:TypeId} {v:Value} {x:List Fr} (h:vC w T v x) (k:Kept l w w') (hT:T∉l):vC w' T v x:=by
 obtain ⟨a,cap,h1,h2,h3,h4,h5⟩:=h;refine ⟨a,cap,h1,h2,h3,h4,fun ad had=>?_⟩;obtain ⟨h6,arr,h7,h8⟩:=h5 ad had;exact ⟨h6,arr,k _ _ _ hT h7,h8⟩
theorem _root_.Go.fG.nQ.keep {l:List TypeId} {w w':World} {v:Value} {m:List (List Fr)} (h:nQ w v m) (k:Kept l w w') (hT:(l.contains 130 || l.contains 38)=false:=by kernel_rfl):nQ w' v m:=by
 simp only [Bool.or_eq_false_iff] at hT;obtain ⟨rs,h1,h2,h3⟩:=h;exact ⟨rs,Row.keep h1 k (Fe hT.1),h2,fun i h h'=>(h3 i h h').keep k (Fe hT.2)⟩
theorem aw7 (w:World) (ht:ko.Pow w) (hc:adapt.kX w):Calls Tryz.prog 71 #[Z I 4] w (fun e w'=>∃ a n c,e= aj (aD #[ah a n c,Z I 0])∧Bw w w'∧nQ w' (ah a n c) (adapt.og 3).fr) :=
 (adapt.RN 4 w ht hc).mono fun _ _ h=>by
  obtain ⟨hb,v,rfl,hm, -⟩:=h;have hm:=hm zd;obtain ⟨rs,hr, -⟩:=id hm;obtain ⟨a,cap,rfl, -⟩:=hr;exact ⟨a,rs.length,cap,rfl,hb,hm⟩
theorem ac0 {a1 a2 a3 a4 a5 a6:ByteArray} {b:Nat} {rest:List Value} {a:Option Addr} {n c:Nat} (h0:light.uy ⟨⟨a1,a2⟩,⟨a3,a4⟩,⟨a5,a6⟩⟩=0) (w:World) (hm:nQ w (ah a n c) (adapt.og 3).fr) (hb:aA w b (([Value.string a1,O a2,O a3,O a4,O a5,O a6]++rest).toArray) 42) (ht:ko.Pow w) :
  Calls Tryz.prog 73 #[ah a n c,ah (some ⟨b,0,none⟩) 3 3] w (fun e w'=>∃ a n c,e= aj (aD #[ah a n c,Z I (zG ⟨⟨a1,a2⟩,⟨a3,a4⟩,⟨a5,a6⟩⟩).2])∧Bw w w' ∧
   ((zG ⟨⟨a1,a2⟩,⟨a3,a4⟩,⟨a5,a6⟩⟩).2=0→n=3∧∃ ad,a=some ad∧TM w' ad ((zG ⟨⟨a1,a2⟩,⟨a3,a4⟩,⟨a5,a6⟩⟩).1.list.flatMap fun f=>[Value.string f.n,O f.d]))):=by
 obtain ⟨e1,e2⟩:=adapt.Vg (adapt.DK h0)
 have hq:∀ q∈adapt.lJ (adapt.qT ⟨⟨a1,a2⟩,⟨a3,a4⟩,⟨a5,a6⟩⟩),jk q=true:=by
  unfold adapt.mF at e2;simp only [aF] at e2;intro q hq;simp only [adapt.lJ,dQ,gU,or_false] at hq
  rcases hq with rfl|rfl|rfl
  ·exact e2.1.1
  ·exact e2.1.2
  ·exact e2.2
 have hl:vC w 42 (ah (some ⟨b,0,none⟩) 3 3) ((adapt.lJ (adapt.qT ⟨⟨a1,a2⟩,⟨a3,a4⟩,⟨a5,a6⟩⟩)).map Fr.of):=by
  have e3:(adapt.lJ (adapt.qT ⟨⟨a1,a2⟩,⟨a3,a4⟩,⟨a5,a6⟩⟩)).map Fr.of=[⟨a1,a2⟩,⟨a3,a4⟩,⟨a5,a6⟩]:=by
   show [Fr.of (adapt.qT ⟨⟨a1,a2⟩,⟨a3,a4⟩,⟨a5,a6⟩⟩ 0),Fr.of (adapt.qT ⟨⟨a1,a2⟩,⟨a3,a4⟩,⟨a5,a6⟩⟩ 1),Fr.of (adapt.qT ⟨⟨a1,a2⟩,⟨a3,a4⟩,⟨a5,a6⟩⟩ 2)]=_
   have h1:=congrArg light.ig.x e1;have h2:=congrArg light.ig.y e1;have h3:=congrArg light.ig.z e1;simp only [adapt.dY] at h1 h2 h3;rw [← h1,← h2,← h3]
  rw [e3];refine ⟨some ⟨b,0,none⟩,3,rfl,aC _,by decide,(fun h=>by cases h),fun ad had=>?_⟩;cases had
  refine ⟨rfl,_,hb,fun i hi=>?_⟩
  match i,hi with
  | 0,_=>exact ⟨rfl,rfl⟩
  | 1,_=>exact ⟨rfl,rfl⟩
  | 2,_=>exact ⟨rfl,rfl⟩
 refine (matrix.Ga _ _ (adapt.og 3) (adapt.lJ (adapt.qT ⟨⟨a1,a2⟩,⟨a3,a4⟩,⟨a5,a6⟩⟩)) 42 w hm hl (adapt.FX 3 zd) hq ht).mono fun e w' h=>?_;have hml:((adapt.og 3).map fun r=>mV r (adapt.lJ (adapt.qT ⟨⟨a1,a2⟩,⟨a3,a4⟩,⟨a5,a6⟩⟩)))=adapt.lJ (adapt.jV 4 ⟨⟨a1,a2⟩,⟨a3,a4⟩,⟨a5,a6⟩⟩):=rfl;rw [hml] at h
 have hall:(adapt.lJ (adapt.jV 4 ⟨⟨a1,a2⟩,⟨a3,a4⟩,⟨a5,a6⟩⟩)).all jk=adapt.mF (adapt.jV 4 ⟨⟨a1,a2⟩,⟨a3,a4⟩,⟨a5,a6⟩⟩):=by
  simp [adapt.lJ,adapt.mF,Bool.and_assoc]
 unfold zG
 rcases h with ⟨h1,vo,rfl,hb2,hf⟩|⟨h1,rfl,hb2⟩
 ·rw [hall] at h1;obtain ⟨a,cap,e,h2,h3,h4,h5⟩:=hf;subst e;refine ⟨a,3,cap,by rw [h1];rfl,hb2,fun _=>⟨rfl,?_⟩⟩;cases a with
  | none=>exact absurd (h4 rfl) (by have:=h2;simp [adapt.lJ] at this;omega)
  | some ad =>
   obtain ⟨h6,arr,h7,h8⟩:=h5 ad rfl;refine ⟨ad,rfl,h6,arr,h7,fun i v hv=>?_⟩;have g0:=h8 0 (by simp [adapt.lJ]);have g1:=h8 1 (by simp [adapt.lJ]);have g2:=h8 2 (by simp [adapt.lJ])
   match i,hv with
   | 0,hv=>cases hv;exact g0.1
   | 1,hv=>cases hv;exact g0.2
   | 2,hv=>cases hv;exact g1.1
   | 3,hv=>cases hv;exact g1.2
   | 4,hv=>cases hv;exact g2.1
   | 5,hv=>cases hv;exact g2.2
 ·rw [hall] at h1;exact ⟨none,0,0,by rw [h1];rfl,hb2,fun h=>absurd h (by rw [h1];exact (by decide:¬ (6:Int)=0))⟩
theorem Zn {a:Option Addr} {n c:Nat} {W r:light.ig} {k:Int} (hx:iD (zG W) r k) (w:World):Calls Tryz.prog 72 #[ah a n c,Z I (zG W).2] w (Try w (ah a n c) k):=hx.1 ▸ Zo w
theorem Zl {a:Option Addr} {n c:Nat} (w:World):Calls Tryz.prog 70 #[ah a n c,Z I 0] w (fun e w'=>e= aj (ah a n c)∧Bw w w'):=(Zm w).mono fun _ _ ⟨hb,hh⟩=>by
 rcases hh with ⟨-, rfl⟩|⟨hk, -⟩
 ·exact ⟨rfl,hb⟩
 ·exact absurd rfl hk
def Aw (w:World):Prop:=∃ T,aA w 0 #[Z I 1000,Z I 1000,Z I 690,Z I 4,Z I 3,Z I 900,Z I 950,Z I 590,Z I 7,Z I 6,Z I 800,Z I 800,Z I 525,Z I 1,Z I 1] T
theorem UG {s n m:Int} (e:s=n) (h:n - 1=m) (h0:0≤m) (h1:m≤9):Value.int .i64 (I.wrap (s - 1))= Z I m:=by subst e;subst h;rw [Fx.wrap_i64 zo zo]
theorem Uz {s e1 e2 e3 e4 e5 a1 a2 a3 a4 a5 n:Int} (e:s=n) (h:oo s=(e1,e2,e3,e4,e5)) (k:oo n=(a1,a2,a3,a4,a5)):e1=a1∧e2=a2∧e3=a3∧e4=a4∧e5=a5:=by
 subst e;rw [k] at h;simp only [fP] at h;exact ⟨h.1.symm,h.2.1.symm,h.2.2.1.symm,h.2.2.2.1.symm,h.2.2.2.2.symm⟩
theorem I4 {a1 a2 a3 a4 a5 a6 l1 l2 y1 y2 r1 r2 r3 r4 r5 r6:ByteArray} {e1 e2 e3 e4 e5 s k:Int} (hx:iD (Aj ⟨⟨a1,a2⟩,⟨a3,a4⟩,⟨a5,a6⟩⟩ ⟨l1,l2⟩ ⟨y1,y2⟩ s) ⟨⟨r1,r2⟩,⟨r3,r4⟩,⟨r5,r6⟩⟩ k) (w:World) (ht:ko.Pow w) (hc:adapt.kX w) (hs:Aw w) (Ad:oo s=(e1,e2,e3,e4,e5)):Calls Tryz.prog 33 #[aB #[O a1,O a2,O a3,O a4,O a5,O a6,O l1,O l2,O y1,O y2,Z I s]] w (Try w (aB #[Z I e1,Z I e2,Z I e3,Z I e4,Z I e5,O a1,O a2,O a3,O a4,O a5,O a6,O l1,O l2,O y1,O y2,Z I s,O r1,O r2,O r3,O r4,O r5,O r6]) k):=by
 unfold Aj at hx;obtain ⟨TS,hs⟩:=hs;refine Fx.door Tryz.func33 rfl (.ro hs (.nil w [])) ?_;have HR:=hx;have B0:=Fx.Dn.nil w;refine Fx.new [] 1 #[O a1,O a2,O a3,O a4,O a5,O a6,O l1,O l2,O y1,O y2,Z I s] 42 [] [] fun iB=>?_;refine Fx.bK [] 2 76 [] [] fun jX=>?_;refine Fx.call [4] 8 [] [] (fun W M=>light.Gm ⟨⟨a1,a2⟩,⟨a3,a4⟩,⟨a5,a6⟩⟩ _) ?_;obtain ⟨_,k3,EX,HN⟩:=aG HR;refine Fx.nK iN [] 9 [] [] (fun W M=>kP (iD.of EX) _) (fun W M=>(B0.at M)) HN fun h0 HR=>?_;subst h0;have hS:light.uy ⟨⟨a1,a2⟩,⟨a3,a4⟩,⟨a5,a6⟩⟩=0:=congrArg Prod.snd EX;refine Fx.call [4] 12 [] [] (fun W M=>dZ.mE ⟨l1,l2⟩ _) ?_;obtain ⟨_,k4,EX,HN⟩:=aG HR;refine Fx.nK iN [] 13 [] [] (fun W M=>kP (iD.of EX) _) (fun W M=>(B0.at M)) HN fun h0 HR=>?_;subst h0
 refine Fx.call [4] 16 [] [] (fun W M=>dZ.mE ⟨y1,y2⟩ _) ?_;obtain ⟨_,k5,EX,HN⟩:=aG HR;refine Fx.nK iN [] 17 [] [] (fun W M=>kP (iD.of EX) _) (fun W M=>(B0.at M)) HN fun h0 HR=>?_;subst h0;refine Fx.bK [4] 3 76 [(19,aB #[Z I 0,Z I 0,Z I 0,Z I 0,Z I 0,O a1,O a2,O a3,O a4,O a5,O a6,O l1,O l2,O y1,O y2,Z I s,O ⟨#[]⟩,O ⟨#[]⟩,O ⟨#[]⟩,O ⟨#[]⟩,O ⟨#[]⟩,O ⟨#[]⟩])] [] fun GJ=>?_;refine Fx.iP [6] 20 [] [(3,#[Z I 0,Z I 0,Z I 0,Z I 0,Z I 0,O a1,O a2,O a3,O a4,O a5,O a6,O l1,O l2,O y1,O y2,Z I s,O ⟨#[]⟩,O ⟨#[]⟩,O ⟨#[]⟩,O ⟨#[]⟩,O ⟨#[]⟩,O ⟨#[]⟩])] (fun W M=>aw7 _ (ht.later (B0.at M)) (hc.later (B0.at M))) ?_
 rintro W w7 e M ⟨am,nm,cm,rfl,D7,hmv⟩;refine ⟨D7,fun M7=>?_⟩;have B7:=B0.next M7
 refine Fx.call [] 23 [] [] (fun W M=>Zl (a:=am) (n:=nm) (c:=cm) _) ?_;refine Fx.draw [] [0,1,2,3,4,5,6,7,8,5009] [] [(4,ah am nm cm)] [] ?_;refine Fx.iP [] 29 [(25,ah (some ⟨GJ,16,none⟩) 3 3)] [] (fun W M=>ac0 (rest:=[O l1,O l2,O y1,O y2,Z I s]) hS _ (hmv.keep (M7.keep M)) (M.box (b:=iB) 1) (ht.later (B7.at M))) ?_;rintro W w8 e M ⟨ao,no,co,rfl,D8,hfr⟩;refine ⟨D8,fun M8=>?_⟩;have B8:=B7.next M8
 obtain ⟨⟨⟨Gl,Gj⟩,⟨Gi,Gh⟩,⟨Gg,Gf⟩⟩,k9,EX,HN⟩:=aG HR;refine Fx.nK iN [] 32 [] [] (fun W M=>Zn (a:=ao) (n:=no) (c:=co) (iD.of EX) _) (fun W M=>(B8.at M)) HN fun h0 HR=>?_;subst h0;rw [EX] at hfr;obtain ⟨rfl,ad,rfl,hsrc⟩:=hfr rfl
 refine Fx.aK9 (b:=GJ) (T:=76) (cur:=#[Z I 0,Z I 0,Z I 0,Z I 0,Z I 0,O a1,O a2,O a3,O a4,O a5,O a6,O l1,O l2,O y1,O y2,Z I s,O ⟨#[]⟩,O ⟨#[]⟩,O ⟨#[]⟩,O ⟨#[]⟩,O ⟨#[]⟩,O ⟨#[]⟩]) (off:=16) (dl:=3) (dc:=3) (sl:=3) (sc:=co) (ad:=ad) (elem:=38) (size:=2) (ty:=3) (dT:=130) (sT:=130) 1 [] 33 3 [] [] [O Gl,O Gj,O Gi,O Gh,O Gg,O Gf] #[Z I 0,Z I 0,Z I 0,Z I 0,Z I 0,O a1,O a2,O a3,O a4,O a5,O a6,O l1,O l2,O y1,O y2,Z I s,O Gl,O Gj,O Gi,O Gh,O Gg,O Gf] (Z I 3) (fun W M=>(hsrc.keep (M8.keep M)).cells) Tryz.underlying130 zk ?_;obtain ⟨v10,k10,EX,HN⟩:=aG HR
 refine Fx.call [1,6] 41 [(34,Z I 0)] [] (fun W M=>Rq EX _) ?_;refine Fx.nK iN [] 44 [] [] (fun W M=>uL (v:=v10) _) (fun W M=>(B8.at M)) HN fun h0 HR=>?_;subst h0;refine Fx.part 1 [] [(45,ak (decide (v10≤0)))] [] ?_;refine Fx.splitB (fun hf1=>?_) (fun hf1=>?_)
 ·skip
  replace HR:=iD.pos HR (of_decide_eq_true hf1);obtain ⟨_,k12,EX,HN⟩:=aG HR;refine Fx.nK iN [1] 46 [] [] (fun W M=>kP (iD.of EX) _) (fun W M=>(B8.at M)) HN fun h0 HR=>?_;subst h0;exact absurd (show (280:Int)=0 from congrArg Prod.snd EX) zd
 ·skip
  replace HR:=iD.neg HR (of_decide_eq_false hf1);obtain ⟨v13,k13,EX,HN⟩:=aG HR;refine Fx.call [2,1,6] 41 [(34,Z I 1)] [] (fun W M=>Rq EX _) ?_;refine Fx.nK iN [] 44 [] [] (fun W M=>uL (v:=v13) _) (fun W M=>(B8.at M)) HN fun h0 HR=>?_;subst h0;refine Fx.part 1 [] [(45,ak (decide (v13≤0)))] [] ?_;refine Fx.splitB (fun hf2=>?_) (fun hf2=>?_)
  ·skip
   replace HR:=iD.pos HR (of_decide_eq_true hf2);obtain ⟨_,k15,EX,HN⟩:=aG HR;refine Fx.nK iN [1] 46 [] [] (fun W M=>kP (iD.of EX) _) (fun W M=>(B8.at M)) HN fun h0 HR=>?_;subst h0;exact absurd (show (280:Int)=0 from congrArg Prod.snd EX) zd
  ·skip
   replace HR:=iD.neg HR (of_decide_eq_false hf2);obtain ⟨v16,k16,EX,HN⟩:=aG HR;refine Fx.call [2,1,6] 41 [(34,Z I 2)] [] (fun W M=>Rq EX _) ?_;refine Fx.nK iN [] 44 [] [] (fun W M=>uL (v:=v16) _) (fun W M=>(B8.at M)) HN fun h0 HR=>?_;subst h0;refine Fx.part 1 [] [(45,ak (decide (v16≤0)))] [] ?_;refine Fx.splitB (fun hf3=>?_) (fun hf3=>?_)
   ·skip
    replace HR:=iD.pos HR (of_decide_eq_true hf3);obtain ⟨_,k18,EX,HN⟩:=aG HR;refine Fx.nK iN [1] 46 [] [] (fun W M=>kP (iD.of EX) _) (fun W M=>(B8.at M)) HN fun h0 HR=>?_;subst h0;exact absurd (show (280:Int)=0 from congrArg Prod.snd EX) zd
   ·skip
    replace HR:=iD.neg HR (of_decide_eq_false hf3);refine Fx.draw [2,2] (dB 6) [] [(34,Z I 3)] [] ?_;obtain ⟨⟨vB,t19⟩,k19,EX,HN⟩:=aG HR;refine Fx.nK iN [4] 50 [(49,aB #[O l1,O l2])] [] (fun W M=>jE (iD.of EX) _ (ht.later (B8.at M))) (fun W M=>(B8.at M)) HN fun h0 HR=>?_;subst h0;obtain ⟨⟨s20,t20⟩,k20,EX,HN⟩:=aG HR;refine Fx.nK iN [] 51 [] [] (fun W M=>jE (iD.of EX) _ (ht.later (B8.at M))) (fun W M=>(B8.at M)) HN fun h0 HR=>?_;subst h0;obtain ⟨v21,k21,EX,HN⟩:=aG HR;refine Fx.nK iN [] 52 [] [] (fun W M=>TG (iD.of EX) _) (fun W M=>(B8.at M)) HN fun h0 HR=>?_;subst h0;refine Fx.part 1 [] [(53,ak (!v21))] [] ?_;refine Fx.splitB (fun hf4=>?_) (fun hf4=>?_)
    ·skip
     replace HR:=iD.pos HR (by simpa using hf4);obtain ⟨_,k22,EX,HN⟩:=aG HR;refine Fx.nK iN [1] 54 [] [] (fun W M=>kP (iD.of EX) _) (fun W M=>(B8.at M)) HN fun h0 HR=>?_;subst h0;exact absurd (show (280:Int)=0 from congrArg Prod.snd EX) zd
    ·skip
     replace HR:=iD.neg HR (by simpa using hf4);obtain ⟨v23,k23,EX,HN⟩:=aG HR;refine Fx.call [2,4] 57 [] [] (fun W M=>Rq EX _) ?_;refine Fx.nK iN [] 60 [] [] (fun W M=>uL (v:=v23) _) (fun W M=>(B8.at M)) HN fun h0 HR=>?_;subst h0;refine Fx.part 1 [] [(61,ak (decide (v23≤0)))] [] ?_;refine Fx.splitB (fun hf5=>?_) (fun hf5=>?_)
     ·skip
      replace HR:=iD.pos HR (of_decide_eq_true hf5);obtain ⟨_,k25,EX,HN⟩:=aG HR;refine Fx.nK iN [0,0,0,0,1] 74 [] [] (fun W M=>kP (iD.of EX) _) (fun W M=>(B8.at M)) HN fun h0 HR=>?_;subst h0;exact absurd (show (280:Int)=0 from congrArg Prod.snd EX) zd
     ·skip
      replace HR:=iD.neg HR (of_decide_eq_false hf5);obtain ⟨v26,k26,EX,HN⟩:=aG HR;refine Fx.call [4,4] 68 [(62,ak false)] [] (fun W M=>ab5 EX _) ?_;refine Fx.nK iN [] 71 [] [] (fun W M=>uL (v:=v26) _) (fun W M=>(B8.at M)) HN fun h0 HR=>?_;subst h0;refine Fx.part 1 [] [(72,ak (decide (0<v26)))] [] ?_;refine Fx.splitB (fun hf6=>?_) (fun hf6=>?_)
      ·skip
       replace HR:=iD.pos HR (of_decide_eq_true hf6);obtain ⟨_,k28,EX,HN⟩:=aG HR;refine Fx.nK iN [1] 74 [] [] (fun W M=>kP (iD.of EX) _) (fun W M=>(B8.at M)) HN fun h0 HR=>?_;subst h0;exact absurd (show (280:Int)=0 from congrArg Prod.snd EX) zd
      ·skip
       replace HR:=iD.neg HR (of_decide_eq_false hf6);refine Fx.part 12 [2,4] [(77,ak (decide (s<1)))] [] ?_;refine Fx.splitB (fun hf7=>?_) (fun hf7=>?_)
       ·skip
        replace HR:=iD.pos HR (of_decide_eq_true hf7);obtain ⟨_,k29,EX,HN⟩:=aG HR;refine Fx.nK iN [0,1] 83 [] [] (fun W M=>kP (iD.of EX) _) (fun W M=>(B8.at M)) HN fun h0 HR=>?_;subst h0;exact absurd (show (280:Int)=0 from congrArg Prod.snd EX) zd
       ·skip
        replace HR:=iD.neg HR (of_decide_eq_false hf7);have h77:=of_decide_eq_false hf7;refine Fx.part 4 [4] [(81,ak (decide (3<s))),(78,ak false)] [] ?_;refine Fx.splitB (fun hf8=>?_) (fun hf8=>?_)
        ·skip
         replace HR:=iD.pos HR (of_decide_eq_true hf8);obtain ⟨_,k30,EX,HN⟩:=aG HR;refine Fx.nK iN [1] 83 [] [] (fun W M=>kP (iD.of EX) _) (fun W M=>(B8.at M)) HN fun h0 HR=>?_;subst h0;exact absurd (show (280:Int)=0 from congrArg Prod.snd EX) zd
        ·skip
         replace HR:=iD.neg HR (of_decide_eq_false hf8);have h81:=of_decide_eq_false hf8;refine Fx.part 11 [2,4] [(86,Z I (I.wrap (s - 1)))] [] ?_
         rcases (show s=1∨s=2∨s=3 by omega) with e|e|e
         ·skip
          obtain ⟨rfl,rfl,rfl,rfl,rfl⟩:=Uz e Ad rfl;refine Fx.jJ (Z I 0) (UG e rfl zd zd) ?_;obtain ⟨hk,hv⟩:=HR;cases hk
          exact Fx.mU (cs:=#[Z I 1000,Z I 1000,Z I 690,Z I 4,Z I 3,O a1,O a2,O a3,O a4,O a5,O a6,O l1,O l2,O y1,O y2,Z I s,O Gl,O Gj,O Gi,O Gh,O Gg,O Gf]) 2 jX [3,6,6,5] [(2,#[Z I 1000,Z I 1000,Z I 690,Z I 4,Z I 3,O a1,O a2,O a3,O a4,O a5,O a6,O l1,O l2,O y1,O y2,Z I s,O Gl,O Gj,O Gi,O Gh,O Gg,O Gf]),(3,#[Z I 1000,Z I 1000,Z I 690,Z I 4,Z I 3,O a1,O a2,O a3,O a4,O a5,O a6,O l1,O l2,O y1,O y2,Z I s,O Gl,O Gj,O Gi,O Gh,O Gg,O Gf])] (fun W M=>⟨(B8.at M),.inl ⟨rfl,by cases hv rfl;rfl⟩⟩)
         ·skip
          obtain ⟨rfl,rfl,rfl,rfl,rfl⟩:=Uz e Ad rfl;refine Fx.jJ (Z I 1) (UG e rfl zd zd) ?_;obtain ⟨hk,hv⟩:=HR;cases hk
          exact Fx.mU (cs:=#[Z I 900,Z I 950,Z I 590,Z I 7,Z I 6,O a1,O a2,O a3,O a4,O a5,O a6,O l1,O l2,O y1,O y2,Z I s,O Gl,O Gj,O Gi,O Gh,O Gg,O Gf]) 2 jX [3,6,6,5] [(2,#[Z I 900,Z I 950,Z I 590,Z I 7,Z I 6,O a1,O a2,O a3,O a4,O a5,O a6,O l1,O l2,O y1,O y2,Z I s,O Gl,O Gj,O Gi,O Gh,O Gg,O Gf]),(3,#[Z I 900,Z I 950,Z I 590,Z I 7,Z I 6,O a1,O a2,O a3,O a4,O a5,O a6,O l1,O l2,O y1,O y2,Z I s,O Gl,O Gj,O Gi,O Gh,O Gg,O Gf])] (fun W M=>⟨(B8.at M),.inl ⟨rfl,by cases hv rfl;rfl⟩⟩)
         ·skip
          obtain ⟨rfl,rfl,rfl,rfl,rfl⟩:=Uz e Ad rfl;refine Fx.jJ (Z I 2) (UG e rfl zd zd) ?_;obtain ⟨hk,hv⟩:=HR;cases hk
          exact Fx.mU (cs:=#[Z I 800,Z I 800,Z I 525,Z I 1,Z I 1,O a1,O a2,O a3,O a4,O a5,O a6,O l1,O l2,O y1,O y2,Z I s,O Gl,O Gj,O Gi,O Gh,O Gg,O Gf]) 2 jX [3,6,6,5] [(2,#[Z I 800,Z I 800,Z I 525,Z I 1,Z I 1,O a1,O a2,O a3,O a4,O a5,O a6,O l1,O l2,O y1,O y2,Z I s,O Gl,O Gj,O Gi,O Gh,O Gg,O Gf]),(3,#[Z I 800,Z I 800,Z I 525,Z I 1,Z I 1,O a1,O a2,O a3,O a4,O a5,O a6,O l1,O l2,O y1,O y2,Z I s,O Gl,O Gj,O Gi,O Gh,O Gg,O Gf])] (fun W M=>⟨(B8.at M),.inl ⟨rfl,by cases hv rfl;rfl⟩⟩)
theorem Aw.later {w w':World} (h:Aw w) (hb:Bw w w'):Aw w':=h.imp fun _ h=>aA.later h hb
theorem av4 {W:light.ig} {la yb:Fr} {s:Int} {r:light.ig} (h:Aj W la yb s=(r,0)):∃ q,rd la=some q∧1≤q:=by
 unfold Aj at h;obtain ⟨_, -, h⟩:=gL h;obtain ⟨_, -, h⟩:=gL h;obtain ⟨_, -, h⟩:=gL h;obtain ⟨_, -, h⟩:=gL h;have bad:∀ {r:light.ig},Kn=(r,0)→False:=fun h=>absurd (show (280:Int)=0 from congrArg Prod.snd h) zd
 obtain ⟨_, -, h⟩:=gL h;split at h
 ·exact (bad h).elim
 obtain ⟨_, -, h⟩:=gL h;split at h
 ·exact (bad h).elim
 obtain ⟨_, -, h⟩:=gL h;split at h
 ·exact (bad h).elim
 obtain ⟨lo,h1,h⟩:=gL h;obtain ⟨hi,h2,h⟩:=gL h;obtain ⟨b,h3,h⟩:=gL h;split at h
 ·exact (bad h).elim
 ·rename_i hb;exact ay8 h1 h3 (by simpa using hb)
theorem aD4 {s e1 e2 e3 e4 e5:Int} (h:oo s=(e1,e2,e3,e4,e5)):(0≤e1∧e1≤1000)∧(0≤e2∧e2≤1000)∧(0≤e3∧e3≤1000):=by
 unfold oo at h;split at h
 ·cases h;decide
 split at h
 ·cases h;decide
 ·cases h;decide
theorem Xd {a1 a2 a3 a4 a5 a6 l1 l2 y1 y2:ByteArray} {f1 f2 n1 n2 c1 c2 m1 m2 d1 d2 g1 g2 g3 g4 g5 g6:ByteArray} {nu de v1 v2 p1 p2 q1 q2:Int} {bv:Nat} {e1 e2 e3 e4 e5 s k:Int} (hx:iD (Bu ⟨⟨a1,a2⟩,⟨a3,a4⟩,⟨a5,a6⟩⟩ ⟨l1,l2⟩ ⟨y1,y2⟩ s) ((⟨f1,f2⟩,⟨n1,n2⟩,⟨c1,c2⟩,⟨m1,m2⟩,⟨d1,d2⟩),(nu,de),⟨⟨g1,g2⟩,⟨g3,g4⟩,⟨g5,g6⟩⟩,(v1,v2),(p1,p2),(q1,q2)) k) (w:World) (hv:aA w bv #[O a1,O a2,O a3,O a4,O a5,O a6,O l1,O l2,O y1,O y2,Z I s] 42) (ht:ko.Pow w) (he:whole.Er w) (hc:adapt.kX w) (hs:Aw w) (Ad:oo s=(e1,e2,e3,e4,e5)) :
  Calls Tryz.prog 32 #[ay (some ⟨bv,0,none⟩)] w (Try w (aB #[O f1,O f2,O n1,O n2,O c1,O c2,O m1,O m2,O d1,O d2,Z I nu,Z I de,O g1,O g2,O g3,O g4,O g5,O g6,Z I v1,Z I v2,Z I p1,Z I p2,Z I q1,Z I q2]) k):=by
 replace hx:iD (bO Dc (Aj ⟨⟨a1,a2⟩,⟨a3,a4⟩,⟨a5,a6⟩⟩ ⟨l1,l2⟩ ⟨y1,y2⟩ s) fun r=>bO Dc (Tw e1 e2 e3 e4 e5 ⟨⟨a1,a2⟩,⟨a3,a4⟩,⟨a5,a6⟩⟩ ⟨l1,l2⟩ ⟨y1,y2⟩ r) qg) ((⟨f1,f2⟩,⟨n1,n2⟩,⟨c1,c2⟩,⟨m1,m2⟩,⟨d1,d2⟩),(nu,de),⟨⟨g1,g2⟩,⟨g3,g4⟩,⟨g5,g6⟩⟩,(v1,v2),(p1,p2),(q1,q2)) k:=by
  unfold Bu at hx;rw [Ad] at hx;exact hx
 obtain ⟨b1,b2,b3⟩:=aD4 Ad;refine Fx.door Tryz.func32 rfl (.ro hv (.nil w [])) ?_;have HR:=hx;refine Fx.bK [] 1 45 [] [] fun iB=>?_;obtain ⟨⟨⟨ac7,ac6⟩,⟨ac5,ac4⟩,⟨ac3,ac2⟩⟩,k2,EX,HN⟩:=aG HR;refine Fx.dD iN [3] 3 [] [] (fun W M=>I4 (iD.of EX) _ (ht.later M.below) (hc.later M.below) (hs.later M.below) Ad) HN fun h0 HR=>?_;subst h0;have hl:=av4 EX;obtain ⟨⟨⟨⟨aN9,aN8⟩,⟨aN7,aN6⟩,⟨aN5,aN4⟩,⟨aN3,aN2⟩,⟨aN1,aN0⟩⟩,⟨ai3,ai2⟩,⟨⟨ai1,ai0⟩,⟨ah9,ah8⟩,⟨ah7,ah6⟩⟩,⟨ah5,ah4⟩,⟨ah3,ah2⟩,ah1,ah0⟩,k3,EX,HN⟩:=aG HR
 refine Fx.dD (args:=#[aB #[Z I e1,Z I e2,Z I e3,Z I e4,Z I e5,O a1,O a2,O a3,O a4,O a5,O a6,O l1,O l2,O y1,O y2,Z I s,O ac7,O ac6,O ac5,O ac4,O ac3,O ac2]]) iN [] 4 [] [] (fun W M=>MV (iD.of EX) _ (ht.later M.below) (he.later M.below) (hc.later M.below) hl b1 b2 b3) HN fun h0 HR=>?_;subst h0;obtain ⟨hk,hv⟩:=HR;cases hk
 exact Fx.mU (cs:=#[O aN9,O aN8,O aN7,O aN6,O aN5,O aN4,O aN3,O aN2,O aN1,O aN0,Z I ai3,Z I ai2,O ai1,O ai0,O ah9,O ah8,O ah7,O ah6,Z I ah5,Z I ah4,Z I ah3,Z I ah2,Z I ah1,Z I ah0]) 1 iB [4] [(1,#[O aN9,O aN8,O aN7,O aN6,O aN5,O aN4,O aN3,O aN2,O aN1,O aN0,Z I ai3,Z I ai2,O ai1,O ai0,O ah9,O ah8,O ah7,O ah6,Z I ah5,Z I ah4,Z I ah3,Z I ah2,Z I ah1,Z I ah0])] (fun W M=>⟨M.below,.inl ⟨rfl,by cases hv rfl;rfl⟩⟩)
theorem Rp {a1 a2 a3 a4 a5 a6 l1 l2 y1 y2 r1 r2 r3 r4 r5 r6:ByteArray} {bv:Nat} {e1 e2 e3 e4 e5 s k:Int} (hx:iD (Aj ⟨⟨a1,a2⟩,⟨a3,a4⟩,⟨a5,a6⟩⟩ ⟨l1,l2⟩ ⟨y1,y2⟩ s) ⟨⟨r1,r2⟩,⟨r3,r4⟩,⟨r5,r6⟩⟩ k) (w:World) (hv:aA w bv #[O a1,O a2,O a3,O a4,O a5,O a6,O l1,O l2,O y1,O y2,Z I s] 42) (ht:ko.Pow w) (hc:adapt.kX w) (hs:Aw w) (Ad:oo s=(e1,e2,e3,e4,e5)) :
  Calls Tryz.prog 41 #[ay (some ⟨bv,0,none⟩)] w (Try w (aB #[Z I e1,Z I e2,Z I e3,Z I e4,Z I e5,O a1,O a2,O a3,O a4,O a5,O a6,O l1,O l2,O y1,O y2,Z I s,O r1,O r2,O r3,O r4,O r5,O r6]) k):=by
 refine Fx.door Tryz.func41 rfl (.ro hv (.nil w [])) ?_;have HR:=hx;refine Fx.bK [] 1 76 [] [] fun iB=>?_;obtain ⟨⟨⟨ac7,ac6⟩,⟨ac5,ac4⟩,⟨ac3,ac2⟩⟩,k2,EX,HN⟩:=yB HR;refine Fx.dD iN [3] 3 [] [] (fun W M=>I4 (iD.of EX) _ (ht.later M.below) (hc.later M.below) (hs.later M.below) Ad) HN fun h0 HR=>?_;subst h0;obtain ⟨hk,hv⟩:=HR;cases hk
 exact Fx.mU (cs:=#[Z I e1,Z I e2,Z I e3,Z I e4,Z I e5,O a1,O a2,O a3,O a4,O a5,O a6,O l1,O l2,O y1,O y2,Z I s,O ac7,O ac6,O ac5,O ac4,O ac3,O ac2]) 1 iB [4] [(1,#[Z I e1,Z I e2,Z I e3,Z I e4,Z I e5,O a1,O a2,O a3,O a4,O a5,O a6,O l1,O l2,O y1,O y2,Z I s,O ac7,O ac6,O ac5,O ac4,O ac3,O ac2])] (fun W M=>⟨M.below,.inl ⟨rfl,by cases hv rfl;rfl⟩⟩)
def aX7:Drv→Value
 | ((⟨f1,f2⟩,⟨n1,n2⟩,⟨c1,c2⟩,⟨m1,m2⟩,⟨d1,d2⟩),(nu,de),⟨⟨g1,g2⟩,⟨g3,g4⟩,⟨g5,g6⟩⟩,(v1,v2),(p1,p2),(q1,q2))=>aB #[O f1,O f2,O n1,O n2,O c1,O c2,O m1,O m2,O d1,O d2,Z I nu,Z I de,O g1,O g2,O g3,O g4,O g5,O g6,Z I v1,Z I v2,Z I p1,Z I p2,Z I q1,Z I q2]
theorem aX1 {f:FuncId} {args:Array Value} {w:World} {x:Drv} {k0 k:Int} {f1 f2 n1 n2 c1 c2 m1 m2 d1 d2 g1 g2 g3 g4 g5 g6:ByteArray} {nu de v1 v2 p1 p2 q1 q2:Int} (C:Calls Tryz.prog f args w (Qg w (aX7 x) (aB #[O ⟨#[]⟩,O ⟨#[]⟩,O ⟨#[]⟩,O ⟨#[]⟩,O ⟨#[]⟩,O ⟨#[]⟩,O ⟨#[]⟩,O ⟨#[]⟩,O ⟨#[]⟩,O ⟨#[]⟩,Z I 0,Z I 0,O ⟨#[]⟩,O ⟨#[]⟩,O ⟨#[]⟩,O ⟨#[]⟩,O ⟨#[]⟩,O ⟨#[]⟩,Z I 0,Z I 0,Z I 0,Z I 0,Z I 0,Z I 0]) k0)) (h:cl Dc (x,k0)=(((⟨f1,f2⟩,⟨n1,n2⟩,⟨c1,c2⟩,⟨m1,m2⟩,⟨d1,d2⟩),(nu,de),⟨⟨g1,g2⟩,⟨g3,g4⟩,⟨g5,g6⟩⟩,(v1,v2),(p1,p2),(q1,q2)),k)) :
  Calls Tryz.prog f args w (fun e w'=>e= aj (aD #[aB #[O f1,O f2,O n1,O n2,O c1,O c2,O m1,O m2,O d1,O d2,Z I nu,Z I de,O g1,O g2,O g3,O g4,O g5,O g6,Z I v1,Z I v2,Z I p1,Z I p2,Z I q1,Z I q2],Z I k])∧Bw w w'):=C.mono fun _ _ ⟨hb,hh⟩=>by
 unfold cl at h
 rcases hh with ⟨h1,rfl⟩|⟨h1,rfl⟩
 ·rw [if_pos h1] at h;cases h
  cases h1
  exact ⟨rfl,hb⟩
 ·rw [if_neg h1] at h;cases h
  exact ⟨rfl,hb⟩
theorem aX3 {f:FuncId} {args:Array Value} {w:World} {V dO:Value} (C:Calls Tryz.prog f args w (Qg w V dO 0)):Calls Tryz.prog f args w (fun e w'=>e= aj (aD #[V,Z I 0])∧Bw w w'):=C.mono fun _ _ ⟨hb,hh⟩=>by
 rcases hh with ⟨-, rfl⟩|⟨h1, -⟩
 ·exact ⟨rfl,hb⟩
 ·exact absurd rfl h1
theorem aX2 {f:FuncId} {args:Array Value} {w:World} {V dO:Value} {k:Int} (hk:k≠0) (C:Calls Tryz.prog f args w (Qg w V dO k)):Calls Tryz.prog f args w (fun e w'=>e= aj (aD #[dO,Z I k])∧Bw w w'):=C.mono fun _ _ ⟨hb,hh⟩=>by
 rcases hh with ⟨h1, -⟩|⟨-, rfl⟩
 ·exact absurd h1 hk
 ·exact ⟨rfl,hb⟩
theorem nN {a1 a2 a3 a4 a5 a6 l1 l2 y1 y2:ByteArray} {s:Int} {f1 f2 n1 n2 c1 c2 m1 m2 d1 d2 g1 g2 g3 g4 g5 g6:ByteArray} {nu de v1 v2 p1 p2 q1 q2:Int} {k:Int} (hx:Tt ⟨⟨a1,a2⟩,⟨a3,a4⟩,⟨a5,a6⟩⟩ ⟨l1,l2⟩ ⟨y1,y2⟩ s=(((⟨f1,f2⟩,⟨n1,n2⟩,⟨c1,c2⟩,⟨m1,m2⟩,⟨d1,d2⟩),(nu,de),⟨⟨g1,g2⟩,⟨g3,g4⟩,⟨g5,g6⟩⟩,(v1,v2),(p1,p2),(q1,q2)),k)) (w:World) (ht:ko.Pow w) (he:whole.Er w) (hc:adapt.kX w) (hs:Aw w) :
  Calls Tryz.prog 11 #[aB #[O a1,O a2,O a3,O a4,O a5,O a6,O l1,O l2,O y1,O y2,Z I s]] w (fun e w'=>e= aj (aD #[aB #[O f1,O f2,O n1,O n2,O c1,O c2,O m1,O m2,O d1,O d2,Z I nu,Z I de,O g1,O g2,O g3,O g4,O g5,O g6,Z I v1,Z I v2,Z I p1,Z I p2,Z I q1,Z I q2],Z I k])∧Bw w w'):=by
 obtain ⟨⟨e1,e2,e3,e4,e5⟩,Ad⟩:∃ y,oo s=y:=⟨_,rfl⟩;unfold Tt at hx;generalize hE:Bu _ _ _ _=r at hx;obtain ⟨⟨⟨⟨F1,F2⟩,⟨N1,N2⟩,⟨C1,C2⟩,⟨M1,M2⟩,⟨D1,D2⟩⟩,⟨NU,DE⟩,⟨⟨G1,G2⟩,⟨G3,G4⟩,⟨G5,G6⟩⟩,⟨V1,V2⟩,⟨P1,P2⟩,Q1,Q2⟩,k0⟩:=r;refine Fx.door Tryz.func11 rfl (.nil w []) ?_;refine Fx.new [] 1 #[O a1,O a2,O a3,O a4,O a5,O a6,O l1,O l2,O y1,O y2,Z I s] 42 [] [] fun iB=>?_;refine Fx.bK [] 2 45 [] [] fun jX=>?_;refine Fx.call [] 5 [] [] (fun W M=>aX1 (PO W (fun V hV=>Xd (iD.of hE) V ((M.box (b:=iB) 0).later hV) (ht.later (Bt M.below hV)) (he.later (Bt M.below hV)) (hc.later (Bt M.below hV)) (hs.later (Bt M.below hV)) Ad) (fun args W=>by kernel_rfl)) hx) ?_
 exact Fx.jm 1 jX [4] [(1,#[O f1,O f2,O n1,O n2,O c1,O c2,O m1,O m2,O d1,O d2,Z I nu,Z I de,O g1,O g2,O g3,O g4,O g5,O g6,Z I v1,Z I v2,Z I p1,Z I p2,Z I q1,Z I q2])] (fun W M=>⟨rfl,M.below⟩)
theorem Gz {a1 a2 a3 a4 a5 a6 l1 l2 y1 y2:ByteArray} {s k:Int} (hx:(Aj ⟨⟨a1,a2⟩,⟨a3,a4⟩,⟨a5,a6⟩⟩ ⟨l1,l2⟩ ⟨y1,y2⟩ s).2=k) (w:World) (ht:ko.Pow w) (hc:adapt.kX w) (hs:Aw w) :
  Calls Tryz.prog 16 #[aB #[O a1,O a2,O a3,O a4,O a5,O a6,O l1,O l2,O y1,O y2,Z I s]] w (fun e w'=>e= aj (Z I k)∧Bw w w'):=by
 obtain ⟨⟨e1,e2,e3,e4,e5⟩,Ad⟩:∃ y,oo s=y:=⟨_,rfl⟩;generalize hE:Aj _ _ _ _=r at hx;obtain ⟨⟨⟨r1,r2⟩,⟨r3,r4⟩,⟨r5,r6⟩⟩,k0⟩:=r;cases hx
 by_cases hk:k0=0
 ·subst hk;refine Fx.door Tryz.func16 rfl (.nil w []) ?_;refine Fx.new [] 1 #[O a1,O a2,O a3,O a4,O a5,O a6,O l1,O l2,O y1,O y2,Z I s] 42 [] [] fun iB=>?_;refine Fx.call [] 7 [] [] (fun W M=>aX3 (F7 W (fun V hV=>Rp (iD.of hE) V ((M.box (b:=iB) 0).later hV) (ht.later (Bt M.below hV)) (hc.later (Bt M.below hV)) (hs.later (Bt M.below hV)) Ad) (fun args W=>by kernel_rfl))) ?_;refine Fx.bK [] 3 76 [(8,aB #[Z I e1,Z I e2,Z I e3,Z I e4,Z I e5,O a1,O a2,O a3,O a4,O a5,O a6,O l1,O l2,O y1,O y2,Z I s,O r1,O r2,O r3,O r4,O r5,O r6]),(9,Z I 0)] [] fun jX=>?_
  exact Fx.Cn [4] [(1,#[Z I e1,Z I e2,Z I e3,Z I e4,Z I e5,O a1,O a2,O a3,O a4,O a5,O a6,O l1,O l2,O y1,O y2,Z I s,O r1,O r2,O r3,O r4,O r5,O r6])] (fun W M=>⟨rfl,M.below⟩)
 ·skip
  refine Fx.door Tryz.func16 rfl (.nil w []) ?_;refine Fx.new [] 1 #[O a1,O a2,O a3,O a4,O a5,O a6,O l1,O l2,O y1,O y2,Z I s] 42 [] [] fun iB=>?_;refine Fx.call [] 7 [] [] (fun W M=>aX2 hk (F7 W (fun V hV=>Rp (iD.of hE) V ((M.box (b:=iB) 0).later hV) (ht.later (Bt M.below hV)) (hc.later (Bt M.below hV)) (hs.later (Bt M.below hV)) Ad) (fun args W=>by kernel_rfl))) ?_;refine Fx.bK [] 3 76 [(8,aB #[Z I 0,Z I 0,Z I 0,Z I 0,Z I 0,O ⟨#[]⟩,O ⟨#[]⟩,O ⟨#[]⟩,O ⟨#[]⟩,O ⟨#[]⟩,O ⟨#[]⟩,O ⟨#[]⟩,O ⟨#[]⟩,O ⟨#[]⟩,O ⟨#[]⟩,Z I 0,O ⟨#[]⟩,O ⟨#[]⟩,O ⟨#[]⟩,O ⟨#[]⟩,O ⟨#[]⟩,O ⟨#[]⟩]),(9,Z I k0)] [] fun jX=>?_
  exact Fx.Cn [4] [(1,#[Z I 0,Z I 0,Z I 0,Z I 0,Z I 0,O ⟨#[]⟩,O ⟨#[]⟩,O ⟨#[]⟩,O ⟨#[]⟩,O ⟨#[]⟩,O ⟨#[]⟩,O ⟨#[]⟩,O ⟨#[]⟩,O ⟨#[]⟩,O ⟨#[]⟩,Z I 0,O ⟨#[]⟩,O ⟨#[]⟩,O ⟨#[]⟩,O ⟨#[]⟩,O ⟨#[]⟩,O ⟨#[]⟩])] (fun W M=>⟨rfl,M.below⟩)
end Go.Proofs.view
