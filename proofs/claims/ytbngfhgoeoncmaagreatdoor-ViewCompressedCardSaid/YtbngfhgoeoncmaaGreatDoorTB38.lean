/- Lemmas for the proof. No condition. -/
import Derived.Test.YtbngfhgoeoncmaaGreatDoorTB37
import Derived.Laws.Tables
set_option linter.unusedVariables false
set_option linter.unusedSimpArgs false
set_option maxRecDepth 100000
set_option maxHeartbeats 16000000
open Go.Ending renaming returned → ah
open Go.IntKind renaming i64 → I
open Go.Value renaming agg → aB, bool → aC, int → Z, pointer → au, string → O, tuple → aF
open List renaming cons_append → bB, length_cons → aV, mem_cons → cK, not_mem_nil → gG, set_cons_succ → aJ, set_cons_zero → aI
open Nat renaming le_refl → aG
namespace Go.Proofs.view
open Go Go.RowKit Go.SW Go.Num Go.Mem Go.Proofs Go.Dec Go.d9
theorem mO {w:World} {b:Nat} {cs cs':Array Value} {T:TypeId} (h:aA w b cs T) (e:cs=cs'):aA w b cs' T:=e ▸ h
def caught (er:Int) (rec:Bool):FrameMode:=.panicking [{ v:=.iface 101 (aB #[Z I er]),recovered:=rec }]
theorem dJ {P:Program} {fn:Func} {w:World} {tmps:Array Value} {p q:Tmp} {ty Lj:TypeId} {g g2:Nat} {x y:Value} (h:fn.results=#[.cell p ty,.cell q Lj])
  (hp:tmps.getD p undef= au (some ⟨g,0,none⟩)) (hq:tmps.getD q undef= au (some ⟨g2,0,none⟩)) (h1:(loadVar ty ⟨g,0,none⟩).run P w= .ok x w) (h2:(loadVar Lj ⟨g2,0,none⟩).run P w= .ok y w) :
  (results fn tmps).run P w= .ok (aF #[x,y]) w:=by
 have hp':tmps[p]?.getD undef= au (some ⟨g,0,none⟩):=by simpa using hp
 have hq':tmps[q]?.getD undef= au (some ⟨g2,0,none⟩):=by simpa using hq
 simp [results,h,hp',hq',asAddr,h1,h2]
theorem iH {w:World} {c:Nat} {z:Int} (h:aA w c #[Z I z] 28):(loadVar 28 ⟨c,0,none⟩).run Tryz.prog w= .ok (Z I z) w:=by
 have hc:=h.cell 0;simp [go_sem,hc]
theorem Gu (p q:Addr) (w:World) :
  CallsD Tryz.prog 48 #[au (some p),au (some q)] .returning w fun e u' w'=>e= ah (aF #[])∧u'= .returning∧w'=w:=by
 refine callsD_of_wpS Tryz.func48 rfl fun c₀ cs hu=>?_;simp only [Tryz.ntmps48,List.size_toArray,aV,List.length_nil,Nat.reduceAdd,Nat.reduceSub,Array.replicate_succ,Array.replicate_zero,List.push_toArray,List.append_toArray,List.nil_append,bB];refine wpS_seq (wpS_region ?_);generalize hQ:Exit.thenS _ _=Q;simp [wpOpsS,go_sem,recoverD,hu]
 rw [← hQ];clear hQ;refine wpS_of_wp ?_;go_wp2_with fail
 cases c₀
 simp_all [bodyPostS,results,Tryz.results48]
theorem XE (b c:Nat) (s1 s2:Int) (z er:Int) (w:World) (hb:aA w b #[Z I s1,Z I s2] 26) (hc:aA w c #[Z I z] 28) :
  CallsD Tryz.prog 48 #[au (some ⟨b,0,none⟩),au (some ⟨c,0,none⟩)] (caught er false) w fun e u' w' =>
   e= ah (aF #[])∧u'=caught er true∧aA w' b #[Z I 0,Z I 0] 26∧aA w' c #[Z I er] 28∧∀ w0:World,w0.heap.size≤b→w0.heap.size≤c→Below w0.heap.size w0 w→Below w0.heap.size w0 w':=by
 unfold caught;refine callsD_of_wpS Tryz.func48 rfl fun c₀ cs hu=>?_;simp only [Tryz.ntmps48,List.size_toArray,aV,List.length_nil,Nat.reduceAdd,Nat.reduceSub,Array.replicate_succ,Array.replicate_zero,List.push_toArray,List.append_toArray,List.nil_append,bB];refine wpS_seq (wpS_region ?_);generalize hQ:Exit.thenS _ _=Q;simp [wpOpsS,go_sem,recoverD,hu]
 rw [← hQ];clear hQ;refine wpS_of_wp ?_
 refine wp_mono (Fx.Aw (n:=18) (R:=fun e _ w'=>e= .normal∧aA w' b #[Z I 0,Z I 0] 26∧aA w' c #[Z I er] 28∧Fx.qI [b,c] w w')
  (S:=[(0,au (some ⟨b,0,none⟩)),(1,au (some ⟨c,0,none⟩)),(2,.iface 101 (aB #[Z I er]))]) ?_ (Fx.Mem.two hb hc (hb.ne hc zd)) (Fx.V7 rfl rfl)) ?_
 ·refine Fx.bH [2] 3 26 [] [] fun b2=>?_;refine Fx.bH [5,3,4] 4 101 [(14,aC true),(13,aB #[Z I er])] [(0,#[Z I 0,Z I 0]),(1,#[Z I 9])] fun b3=>?_;exact Fx.Xl [6,1,6,4] [(1,#[Z I er]),(3,#[Z I er])] fun S w' M=>⟨rfl,M.all 0 _ rfl,M.all 1 _ rfl,M.AY⟩
 ·intro e a' w' h;cases e with
  | normal =>
   obtain ⟨S',hr, -, h1,h2,h3⟩:=h;refine ⟨hr.defers,_,rfl,_,results_none rfl _ _ _,rfl,rfl,h1,h2,fun w0 g1 g2 g3=>h3.below g3 fun x hx=>?_⟩;simp only [cK,gG,or_false] at hx
   rcases hx with rfl|rfl<;>assumption
  | panic ch=>obtain ⟨-, S',he, -⟩:=h;cases he
  | exit id=>obtain ⟨S', -, he, -⟩:=h;cases he
  | goto id=>obtain ⟨S', -, he, -⟩:=h;cases he
  | ret=>obtain ⟨S', -, he, -⟩:=h;cases he
  | outgrown=>obtain ⟨S', -, he, -⟩:=h;cases he
theorem Pk {w:World} {b:Nat} {s1 s2:Int} (h:aA w b #[Z I s1,Z I s2] 26):(loadVar 26 ⟨b,0,none⟩).run Tryz.prog w= .ok (aB #[Z I s1,Z I s2]) w :=
 run_loadVar_row w b 26 26 _ (0,0) _ h Tryz.underlying26 rfl zk
theorem Ay {f:FuncId} {caps:Array Value} {k:Int} {s1 s2:Int} (w:World) (HC:∀ W,Below w.heap.size w W→Calls Tryz.prog f caps W (Try W (aB #[Z I s1,Z I s2]) k))
  (hf:∀ args W,(callFunc f args).run Tryz.prog W= .ok (.enter f args) W) :
  Calls Tryz.prog 19 #[.func (.func f) #[] caps] w (JE w (aB #[Z I s1,Z I s2]) (aB #[Z I 0,Z I 0]) k):=by
 have Kv:∀ (fn:Fn) (first cap:Array Value) (w:World),(Instr.makeFunc fn first cap).run Tryz.prog w= .ok (.func fn first cap) w:=fun _ _ _ _=>rfl;have JC:=zh HC;clear HC;have hb0:Below w.heap.size w ((w.alloc (.cells #[Z I 0,Z I 0] 26)).alloc (.cells #[Z I 0] 28)):=aO;obtain ⟨w0,oq⟩:∃ y,(w.alloc (.cells #[Z I 0,Z I 0] 26)).alloc (.cells #[Z I 0] 28)=y:=⟨_,rfl⟩;have hx1:aA w0 w.heap.size #[Z I 0,Z I 0] 26:=by rw [← oq];exact aY
 have hx2:aA w0 (w.heap.size+1) #[Z I 0] 28:=by rw [← oq];exact aY
 rw [oq] at hb0
 go_enter_defers Tryz.func19,Tryz.ntmps19
 go_wp2_with fail
 refine (JC.out _ hb0).mono ?_;rintro e w1 ⟨hb1,⟨rfl,rfl⟩|⟨h,rfl⟩⟩
 ·replace hx1:=hx1.later hb1;replace hx2:=hx2.later hb1;have hne:w.heap.size≠w.heap.size+1:=by omega
  have hx3:aA (w1.setRow w.heap.size #[Z I s1,Z I s2]) w.heap.size #[Z I s1,Z I s2] 26:=setRow_heap _ _ _ _ _ _ hx1
  have hx4:aA (w1.setRow w.heap.size #[Z I s1,Z I s2]) (w.heap.size+1) #[Z I 0] 28:=by
   unfold aA at *;rw [setRow_other _ _ _ _ zo];exact hx2
  have hbw:Below w.heap.size w (w1.setRow w.heap.size #[Z I s1,Z I s2]):=below_setRow (Bt hb0 hb1) (aG _) _;have c2:=hx4.cell;have f2:=hx4.free;have Rl:=zh hx1;have QN:Hid (aA ((w1.setRow w.heap.size #[Z I s1,Z I s2]).setCell ⟨w.heap.size+1,0,none⟩ (Z I 0)) w.heap.size #[Z I s1,Z I s2] 26):=zh aY
  have Ye:Hid (aA ((w1.setRow w.heap.size #[Z I s1,Z I s2]).setCell ⟨w.heap.size+1,0,none⟩ (Z I 0)) (w.heap.size+1) #[Z I 0] 28):=zh (by
   apply mO
   ·exact aY
   ·simp only [List.setIfInBounds_toArray,aI,aJ])
  have Yn:Hid (Below w.heap.size w ((w1.setRow w.heap.size #[Z I s1,Z I s2]).setCell ⟨w.heap.size+1,0,none⟩ (Z I 0))):=zh aO;clear hx3 hx4 hbw oq hx1 hx2 hb0 hb1;have h1c:(#[Z I s1,Z I s2]:Array Value).all (·.oneCell')=true:=by simp [Value.oneCell']
  have hic:(Tryz.prog.info? 26).map (·.size)=some (#[Z I s1,Z I s2]:Array Value).size:=by kernel_rfl
  go_wp2_with (refine wpList_store_row rfl 26 (.tmp 2) (.tmp 6) rfl w.heap.size #[Z I s1,Z I s2] rfl rfl 26 #[Z I 0,Z I 0] Rl.out hic rfl h1c ?_)
  refine leaves_cons (f:=48) (args:=#[au (some ⟨w.heap.size,0,none⟩),au (some ⟨w.heap.size+1,0,none⟩)]) zi (by simp [go_sem]) ?_;refine (Gu _ _ _).mono ?_;rintro e u' w'' ⟨rfl,rfl,rfl⟩;exact ⟨_,dJ rfl rfl rfl (Pk QN.out) (iH Ye.out),Yn.out,.inl ⟨rfl,rfl⟩⟩
 ·replace hx1:=hx1.later hb1;replace hx2:=hx2.later hb1
  change bodyPostD _ _ _ (Exit.panic [{ v:=.iface 101 (aB #[Z I k]),recovered:=false }]) _ _
  refine leaves_cons (f:=48) (args:=#[au (some ⟨w.heap.size,0,none⟩),au (some ⟨w.heap.size+1,0,none⟩)]) zi (by simp [go_sem]) ?_;refine (XE w.heap.size (w.heap.size+1) _ _ _ k _ hx1 hx2).mono ?_;rintro e u' w'' ⟨rfl,rfl,hy1,hy2,hbb⟩;exact ⟨_,dJ rfl rfl rfl (Pk hy1) (iH hy2),hbb w (aG _) zo (Bt hb0 hb1),.inr ⟨h,rfl⟩⟩
theorem Gp (p q:Addr) (w:World) :
  CallsD Tryz.prog 95 #[au (some p),au (some q)] .returning w fun e u' w'=>e= ah (aF #[])∧u'= .returning∧w'=w:=by
 refine callsD_of_wpS Tryz.func95 rfl fun c₀ cs hu=>?_;simp only [Tryz.ntmps95,List.size_toArray,aV,List.length_nil,Nat.reduceAdd,Nat.reduceSub,Array.replicate_succ,Array.replicate_zero,List.push_toArray,List.append_toArray,List.nil_append,bB];refine wpS_seq (wpS_region ?_);generalize hQ:Exit.thenS _ _=Q;simp [wpOpsS,go_sem,recoverD,hu]
 rw [← hQ];clear hQ;refine wpS_of_wp ?_;go_wp2_with fail
 cases c₀
 simp_all [bodyPostS,results,Tryz.results95]
theorem XA (b c:Nat) (s1 s2 s3 s4 s5 s16:Int) (s6 s7 s8 s9 s10 s11 s12 s13 oP s15 oU pU oO s20 qb oN:ByteArray) (z er:Int) (w:World) (hb:aA w b #[Z I s1,Z I s2,Z I s3,Z I s4,Z I s5,O s6,O s7,O s8,O s9,O s10,O s11,O s12,O s13,O oP,O s15,Z I s16,O oU,O pU,O oO,O s20,O qb,O oN] 76) (hc:aA w c #[Z I z] 28) :
  CallsD Tryz.prog 95 #[au (some ⟨b,0,none⟩),au (some ⟨c,0,none⟩)] (caught er false) w fun e u' w' =>
   e= ah (aF #[])∧u'=caught er true∧aA w' b #[Z I 0,Z I 0,Z I 0,Z I 0,Z I 0,O ⟨#[]⟩,O ⟨#[]⟩,O ⟨#[]⟩,O ⟨#[]⟩,O ⟨#[]⟩,O ⟨#[]⟩,O ⟨#[]⟩,O ⟨#[]⟩,O ⟨#[]⟩,O ⟨#[]⟩,Z I 0,O ⟨#[]⟩,O ⟨#[]⟩,O ⟨#[]⟩,O ⟨#[]⟩,O ⟨#[]⟩,O ⟨#[]⟩] 76∧aA w' c #[Z I er] 28∧∀ w0:World,w0.heap.size≤b→w0.heap.size≤c→Below w0.heap.size w0 w→Below w0.heap.size w0 w':=by
 unfold caught;refine callsD_of_wpS Tryz.func95 rfl fun c₀ cs hu=>?_;simp only [Tryz.ntmps95,List.size_toArray,aV,List.length_nil,Nat.reduceAdd,Nat.reduceSub,Array.replicate_succ,Array.replicate_zero,List.push_toArray,List.append_toArray,List.nil_append,bB];refine wpS_seq (wpS_region ?_);generalize hQ:Exit.thenS _ _=Q;simp [wpOpsS,go_sem,recoverD,hu]
 rw [← hQ];clear hQ;refine wpS_of_wp ?_
 refine wp_mono (Fx.Aw (n:=18) (R:=fun e _ w'=>e= .normal∧aA w' b #[Z I 0,Z I 0,Z I 0,Z I 0,Z I 0,O ⟨#[]⟩,O ⟨#[]⟩,O ⟨#[]⟩,O ⟨#[]⟩,O ⟨#[]⟩,O ⟨#[]⟩,O ⟨#[]⟩,O ⟨#[]⟩,O ⟨#[]⟩,O ⟨#[]⟩,Z I 0,O ⟨#[]⟩,O ⟨#[]⟩,O ⟨#[]⟩,O ⟨#[]⟩,O ⟨#[]⟩,O ⟨#[]⟩] 76∧aA w' c #[Z I er] 28∧Fx.qI [b,c] w w')
  (S:=[(0,au (some ⟨b,0,none⟩)),(1,au (some ⟨c,0,none⟩)),(2,.iface 101 (aB #[Z I er]))]) ?_ (Fx.Mem.two hb hc (hb.ne hc zd)) (Fx.V7 rfl rfl)) ?_
 ·refine Fx.bH [2] 3 76 [] [] fun b2=>?_;refine Fx.bH [5,3,4] 4 101 [(14,aC true),(13,aB #[Z I er])] [(0,#[Z I 0,Z I 0,Z I 0,Z I 0,Z I 0,O ⟨#[]⟩,O ⟨#[]⟩,O ⟨#[]⟩,O ⟨#[]⟩,O ⟨#[]⟩,O ⟨#[]⟩,O ⟨#[]⟩,O ⟨#[]⟩,O ⟨#[]⟩,O ⟨#[]⟩,Z I 0,O ⟨#[]⟩,O ⟨#[]⟩,O ⟨#[]⟩,O ⟨#[]⟩,O ⟨#[]⟩,O ⟨#[]⟩]),(1,#[Z I 9])] fun b3=>?_;exact Fx.Xl [6,1,6,4] [(1,#[Z I er]),(3,#[Z I er])] fun S w' M=>⟨rfl,M.all 0 _ rfl,M.all 1 _ rfl,M.AY⟩
 ·intro e a' w' h;cases e with
  | normal =>
   obtain ⟨S',hr, -, h1,h2,h3⟩:=h;refine ⟨hr.defers,_,rfl,_,results_none rfl _ _ _,rfl,rfl,h1,h2,fun w0 g1 g2 g3=>h3.below g3 fun x hx=>?_⟩;simp only [cK,gG,or_false] at hx
   rcases hx with rfl|rfl<;>assumption
  | panic ch=>obtain ⟨-, S',he, -⟩:=h;cases he
  | exit id=>obtain ⟨S', -, he, -⟩:=h;cases he
  | goto id=>obtain ⟨S', -, he, -⟩:=h;cases he
  | ret=>obtain ⟨S', -, he, -⟩:=h;cases he
  | outgrown=>obtain ⟨S', -, he, -⟩:=h;cases he
theorem Pg {w:World} {b:Nat} {s1 s2 s3 s4 s5 s16:Int} {s6 s7 s8 s9 s10 s11 s12 s13 oP s15 oU pU oO s20 qb oN:ByteArray} (h:aA w b #[Z I s1,Z I s2,Z I s3,Z I s4,Z I s5,O s6,O s7,O s8,O s9,O s10,O s11,O s12,O s13,O oP,O s15,Z I s16,O oU,O pU,O oO,O s20,O qb,O oN] 76):(loadVar 76 ⟨b,0,none⟩).run Tryz.prog w= .ok (aB #[Z I s1,Z I s2,Z I s3,Z I s4,Z I s5,O s6,O s7,O s8,O s9,O s10,O s11,O s12,O s13,O oP,O s15,Z I s16,O oU,O pU,O oO,O s20,O qb,O oN]) w :=
 run_loadVar_row w b 76 76 _ (0,0) _ h Tryz.underlying76 rfl zk
theorem kD {f:FuncId} {caps:Array Value} {k:Int} {s1 s2 s3 s4 s5 s16:Int} {s6 s7 s8 s9 s10 s11 s12 s13 oP s15 oU pU oO s20 qb oN:ByteArray} (w:World) (HC:∀ W,Below w.heap.size w W→Calls Tryz.prog f caps W (Try W (aB #[Z I s1,Z I s2,Z I s3,Z I s4,Z I s5,O s6,O s7,O s8,O s9,O s10,O s11,O s12,O s13,O oP,O s15,Z I s16,O oU,O pU,O oO,O s20,O qb,O oN]) k))
  (hf:∀ args W,(callFunc f args).run Tryz.prog W= .ok (.enter f args) W) :
  Calls Tryz.prog 40 #[.func (.func f) #[] caps] w (JE w (aB #[Z I s1,Z I s2,Z I s3,Z I s4,Z I s5,O s6,O s7,O s8,O s9,O s10,O s11,O s12,O s13,O oP,O s15,Z I s16,O oU,O pU,O oO,O s20,O qb,O oN]) (aB #[Z I 0,Z I 0,Z I 0,Z I 0,Z I 0,O ⟨#[]⟩,O ⟨#[]⟩,O ⟨#[]⟩,O ⟨#[]⟩,O ⟨#[]⟩,O ⟨#[]⟩,O ⟨#[]⟩,O ⟨#[]⟩,O ⟨#[]⟩,O ⟨#[]⟩,Z I 0,O ⟨#[]⟩,O ⟨#[]⟩,O ⟨#[]⟩,O ⟨#[]⟩,O ⟨#[]⟩,O ⟨#[]⟩]) k):=by
 have Kv:∀ (fn:Fn) (first cap:Array Value) (w:World),(Instr.makeFunc fn first cap).run Tryz.prog w= .ok (.func fn first cap) w:=fun _ _ _ _=>rfl;have JC:=zh HC;clear HC;have hb0:Below w.heap.size w ((w.alloc (.cells #[Z I 0,Z I 0,Z I 0,Z I 0,Z I 0,O ⟨#[]⟩,O ⟨#[]⟩,O ⟨#[]⟩,O ⟨#[]⟩,O ⟨#[]⟩,O ⟨#[]⟩,O ⟨#[]⟩,O ⟨#[]⟩,O ⟨#[]⟩,O ⟨#[]⟩,Z I 0,O ⟨#[]⟩,O ⟨#[]⟩,O ⟨#[]⟩,O ⟨#[]⟩,O ⟨#[]⟩,O ⟨#[]⟩] 76)).alloc (.cells #[Z I 0] 28)):=aO
 obtain ⟨w0,oq⟩:∃ y,(w.alloc (.cells #[Z I 0,Z I 0,Z I 0,Z I 0,Z I 0,O ⟨#[]⟩,O ⟨#[]⟩,O ⟨#[]⟩,O ⟨#[]⟩,O ⟨#[]⟩,O ⟨#[]⟩,O ⟨#[]⟩,O ⟨#[]⟩,O ⟨#[]⟩,O ⟨#[]⟩,Z I 0,O ⟨#[]⟩,O ⟨#[]⟩,O ⟨#[]⟩,O ⟨#[]⟩,O ⟨#[]⟩,O ⟨#[]⟩] 76)).alloc (.cells #[Z I 0] 28)=y:=⟨_,rfl⟩;have hx1:aA w0 w.heap.size #[Z I 0,Z I 0,Z I 0,Z I 0,Z I 0,O ⟨#[]⟩,O ⟨#[]⟩,O ⟨#[]⟩,O ⟨#[]⟩,O ⟨#[]⟩,O ⟨#[]⟩,O ⟨#[]⟩,O ⟨#[]⟩,O ⟨#[]⟩,O ⟨#[]⟩,Z I 0,O ⟨#[]⟩,O ⟨#[]⟩,O ⟨#[]⟩,O ⟨#[]⟩,O ⟨#[]⟩,O ⟨#[]⟩] 76:=by rw [← oq];exact aY
 have hx2:aA w0 (w.heap.size+1) #[Z I 0] 28:=by rw [← oq];exact aY
 rw [oq] at hb0
 go_enter_defers Tryz.func40,Tryz.ntmps40
 go_wp2_with fail
 refine (JC.out _ hb0).mono ?_;rintro e w1 ⟨hb1,⟨rfl,rfl⟩|⟨h,rfl⟩⟩
 ·replace hx1:=hx1.later hb1;replace hx2:=hx2.later hb1;have hne:w.heap.size≠w.heap.size+1:=by omega
  have hx3:aA (w1.setRow w.heap.size #[Z I s1,Z I s2,Z I s3,Z I s4,Z I s5,O s6,O s7,O s8,O s9,O s10,O s11,O s12,O s13,O oP,O s15,Z I s16,O oU,O pU,O oO,O s20,O qb,O oN]) w.heap.size #[Z I s1,Z I s2,Z I s3,Z I s4,Z I s5,O s6,O s7,O s8,O s9,O s10,O s11,O s12,O s13,O oP,O s15,Z I s16,O oU,O pU,O oO,O s20,O qb,O oN] 76:=setRow_heap _ _ _ _ _ _ hx1
  have hx4:aA (w1.setRow w.heap.size #[Z I s1,Z I s2,Z I s3,Z I s4,Z I s5,O s6,O s7,O s8,O s9,O s10,O s11,O s12,O s13,O oP,O s15,Z I s16,O oU,O pU,O oO,O s20,O qb,O oN]) (w.heap.size+1) #[Z I 0] 28:=by
   unfold aA at *;rw [setRow_other _ _ _ _ zo];exact hx2
  have hbw:Below w.heap.size w (w1.setRow w.heap.size #[Z I s1,Z I s2,Z I s3,Z I s4,Z I s5,O s6,O s7,O s8,O s9,O s10,O s11,O s12,O s13,O oP,O s15,Z I s16,O oU,O pU,O oO,O s20,O qb,O oN]):=below_setRow (Bt hb0 hb1) (aG _) _;have c2:=hx4.cell;have f2:=hx4.free;have Rl:=zh hx1
  have QN:Hid (aA ((w1.setRow w.heap.size #[Z I s1,Z I s2,Z I s3,Z I s4,Z I s5,O s6,O s7,O s8,O s9,O s10,O s11,O s12,O s13,O oP,O s15,Z I s16,O oU,O pU,O oO,O s20,O qb,O oN]).setCell ⟨w.heap.size+1,0,none⟩ (Z I 0)) w.heap.size #[Z I s1,Z I s2,Z I s3,Z I s4,Z I s5,O s6,O s7,O s8,O s9,O s10,O s11,O s12,O s13,O oP,O s15,Z I s16,O oU,O pU,O oO,O s20,O qb,O oN] 76):=zh aY
  have Ye:Hid (aA ((w1.setRow w.heap.size #[Z I s1,Z I s2,Z I s3,Z I s4,Z I s5,O s6,O s7,O s8,O s9,O s10,O s11,O s12,O s13,O oP,O s15,Z I s16,O oU,O pU,O oO,O s20,O qb,O oN]).setCell ⟨w.heap.size+1,0,none⟩ (Z I 0)) (w.heap.size+1) #[Z I 0] 28):=zh (by
   apply mO
   ·exact aY
   ·simp only [List.setIfInBounds_toArray,aI,aJ])
  have Yn:Hid (Below w.heap.size w ((w1.setRow w.heap.size #[Z I s1,Z I s2,Z I s3,Z I s4,Z I s5,O s6,O s7,O s8,O s9,O s10,O s11,O s12,O s13,O oP,O s15,Z I s16,O oU,O pU,O oO,O s20,O qb,O oN]).setCell ⟨w.heap.size+1,0,none⟩ (Z I 0))):=zh aO;clear hx3 hx4 hbw oq hx1 hx2 hb0 hb1;have h1c:(#[Z I s1,Z I s2,Z I s3,Z I s4,Z I s5,O s6,O s7,O s8,O s9,O s10,O s11,O s12,O s13,O oP,O s15,Z I s16,O oU,O pU,O oO,O s20,O qb,O oN]:Array Value).all (·.oneCell')=true:=by simp [Value.oneCell']
  have hic:(Tryz.prog.info? 76).map (·.size)=some (#[Z I s1,Z I s2,Z I s3,Z I s4,Z I s5,O s6,O s7,O s8,O s9,O s10,O s11,O s12,O s13,O oP,O s15,Z I s16,O oU,O pU,O oO,O s20,O qb,O oN]:Array Value).size:=by kernel_rfl
  go_wp2_with (refine wpList_store_row rfl 76 (.tmp 2) (.tmp 6) rfl w.heap.size #[Z I s1,Z I s2,Z I s3,Z I s4,Z I s5,O s6,O s7,O s8,O s9,O s10,O s11,O s12,O s13,O oP,O s15,Z I s16,O oU,O pU,O oO,O s20,O qb,O oN] rfl rfl 76 #[Z I 0,Z I 0,Z I 0,Z I 0,Z I 0,O ⟨#[]⟩,O ⟨#[]⟩,O ⟨#[]⟩,O ⟨#[]⟩,O ⟨#[]⟩,O ⟨#[]⟩,O ⟨#[]⟩,O ⟨#[]⟩,O ⟨#[]⟩,O ⟨#[]⟩,Z I 0,O ⟨#[]⟩,O ⟨#[]⟩,O ⟨#[]⟩,O ⟨#[]⟩,O ⟨#[]⟩,O ⟨#[]⟩] Rl.out hic rfl h1c ?_)
  refine leaves_cons (f:=95) (args:=#[au (some ⟨w.heap.size,0,none⟩),au (some ⟨w.heap.size+1,0,none⟩)]) zi (by simp [go_sem]) ?_;refine (Gp _ _ _).mono ?_;rintro e u' w'' ⟨rfl,rfl,rfl⟩;exact ⟨_,dJ rfl rfl rfl (Pg QN.out) (iH Ye.out),Yn.out,.inl ⟨rfl,rfl⟩⟩
 ·replace hx1:=hx1.later hb1;replace hx2:=hx2.later hb1
  change bodyPostD _ _ _ (Exit.panic [{ v:=.iface 101 (aB #[Z I k]),recovered:=false }]) _ _
  refine leaves_cons (f:=95) (args:=#[au (some ⟨w.heap.size,0,none⟩),au (some ⟨w.heap.size+1,0,none⟩)]) zi (by simp [go_sem]) ?_;refine (XA w.heap.size (w.heap.size+1) _ _ _ _ _ _ _ _ _ _ _ _ _ _ _ _ _ _ _ _ _ _ _ k _ hx1 hx2).mono ?_;rintro e u' w'' ⟨rfl,rfl,hy1,hy2,hbb⟩;exact ⟨_,dJ rfl rfl rfl (Pg hy1) (iH hy2),hbb w (aG _) zo (Bt hb0 hb1),.inr ⟨h,rfl⟩⟩
theorem Gt (p q:Addr) (w:World) :
  CallsD Tryz.prog 67 #[au (some p),au (some q)] .returning w fun e u' w'=>e= ah (aF #[])∧u'= .returning∧w'=w:=by
 refine callsD_of_wpS Tryz.func67 rfl fun c₀ cs hu=>?_;simp only [Tryz.ntmps67,List.size_toArray,aV,List.length_nil,Nat.reduceAdd,Nat.reduceSub,Array.replicate_succ,Array.replicate_zero,List.push_toArray,List.append_toArray,List.nil_append,bB];refine wpS_seq (wpS_region ?_);generalize hQ:Exit.thenS _ _=Q;simp [wpOpsS,go_sem,recoverD,hu]
 rw [← hQ];clear hQ;refine wpS_of_wp ?_;go_wp2_with fail
 cases c₀
 simp_all [bodyPostS,results,Tryz.results67]
theorem XD (b c:Nat) (s11 s12 oO s20 qb oN DX s24:Int) (s1 s2 s3 s4 s5 s6 s7 s8 s9 s10 s13 oP s15 s16 oU pU:ByteArray) (z er:Int) (w:World) (hb:aA w b #[O s1,O s2,O s3,O s4,O s5,O s6,O s7,O s8,O s9,O s10,Z I s11,Z I s12,O s13,O oP,O s15,O s16,O oU,O pU,Z I oO,Z I s20,Z I qb,Z I oN,Z I DX,Z I s24] 45) (hc:aA w c #[Z I z] 28) :
  CallsD Tryz.prog 67 #[au (some ⟨b,0,none⟩),au (some ⟨c,0,none⟩)] (caught er false) w fun e u' w' =>
   e= ah (aF #[])∧u'=caught er true∧aA w' b #[O ⟨#[]⟩,O ⟨#[]⟩,O ⟨#[]⟩,O ⟨#[]⟩,O ⟨#[]⟩,O ⟨#[]⟩,O ⟨#[]⟩,O ⟨#[]⟩,O ⟨#[]⟩,O ⟨#[]⟩,Z I 0,Z I 0,O ⟨#[]⟩,O ⟨#[]⟩,O ⟨#[]⟩,O ⟨#[]⟩,O ⟨#[]⟩,O ⟨#[]⟩,Z I 0,Z I 0,Z I 0,Z I 0,Z I 0,Z I 0] 45∧aA w' c #[Z I er] 28∧∀ w0:World,w0.heap.size≤b→w0.heap.size≤c→Below w0.heap.size w0 w→Below w0.heap.size w0 w':=by
 unfold caught;refine callsD_of_wpS Tryz.func67 rfl fun c₀ cs hu=>?_;simp only [Tryz.ntmps67,List.size_toArray,aV,List.length_nil,Nat.reduceAdd,Nat.reduceSub,Array.replicate_succ,Array.replicate_zero,List.push_toArray,List.append_toArray,List.nil_append,bB];refine wpS_seq (wpS_region ?_);generalize hQ:Exit.thenS _ _=Q;simp [wpOpsS,go_sem,recoverD,hu]
 rw [← hQ];clear hQ;refine wpS_of_wp ?_
 refine wp_mono (Fx.Aw (n:=18) (R:=fun e _ w'=>e= .normal∧aA w' b #[O ⟨#[]⟩,O ⟨#[]⟩,O ⟨#[]⟩,O ⟨#[]⟩,O ⟨#[]⟩,O ⟨#[]⟩,O ⟨#[]⟩,O ⟨#[]⟩,O ⟨#[]⟩,O ⟨#[]⟩,Z I 0,Z I 0,O ⟨#[]⟩,O ⟨#[]⟩,O ⟨#[]⟩,O ⟨#[]⟩,O ⟨#[]⟩,O ⟨#[]⟩,Z I 0,Z I 0,Z I 0,Z I 0,Z I 0,Z I 0] 45∧aA w' c #[Z I er] 28∧Fx.qI [b,c] w w')
  (S:=[(0,au (some ⟨b,0,none⟩)),(1,au (some ⟨c,0,none⟩)),(2,.iface 101 (aB #[Z I er]))]) ?_ (Fx.Mem.two hb hc (hb.ne hc zd)) (Fx.V7 rfl rfl)) ?_
 ·refine Fx.bH [2] 3 45 [] [] fun b2=>?_;refine Fx.bH [5,3,4] 4 101 [(14,aC true),(13,aB #[Z I er])] [(0,#[O ⟨#[]⟩,O ⟨#[]⟩,O ⟨#[]⟩,O ⟨#[]⟩,O ⟨#[]⟩,O ⟨#[]⟩,O ⟨#[]⟩,O ⟨#[]⟩,O ⟨#[]⟩,O ⟨#[]⟩,Z I 0,Z I 0,O ⟨#[]⟩,O ⟨#[]⟩,O ⟨#[]⟩,O ⟨#[]⟩,O ⟨#[]⟩,O ⟨#[]⟩,Z I 0,Z I 0,Z I 0,Z I 0,Z I 0,Z I 0]),(1,#[Z I 9])] fun b3=>?_;exact Fx.Xl [6,1,6,4] [(1,#[Z I er]),(3,#[Z I er])] fun S w' M=>⟨rfl,M.all 0 _ rfl,M.all 1 _ rfl,M.AY⟩
 ·intro e a' w' h;cases e with
  | normal =>
   obtain ⟨S',hr, -, h1,h2,h3⟩:=h;refine ⟨hr.defers,_,rfl,_,results_none rfl _ _ _,rfl,rfl,h1,h2,fun w0 g1 g2 g3=>h3.below g3 fun x hx=>?_⟩;simp only [cK,gG,or_false] at hx
   rcases hx with rfl|rfl<;>assumption
  | panic ch=>obtain ⟨-, S',he, -⟩:=h;cases he
  | exit id=>obtain ⟨S', -, he, -⟩:=h;cases he
  | goto id=>obtain ⟨S', -, he, -⟩:=h;cases he
  | ret=>obtain ⟨S', -, he, -⟩:=h;cases he
  | outgrown=>obtain ⟨S', -, he, -⟩:=h;cases he
theorem Pj {w:World} {b:Nat} {s11 s12 oO s20 qb oN DX s24:Int} {s1 s2 s3 s4 s5 s6 s7 s8 s9 s10 s13 oP s15 s16 oU pU:ByteArray} (h:aA w b #[O s1,O s2,O s3,O s4,O s5,O s6,O s7,O s8,O s9,O s10,Z I s11,Z I s12,O s13,O oP,O s15,O s16,O oU,O pU,Z I oO,Z I s20,Z I qb,Z I oN,Z I DX,Z I s24] 45):(loadVar 45 ⟨b,0,none⟩).run Tryz.prog w= .ok (aB #[O s1,O s2,O s3,O s4,O s5,O s6,O s7,O s8,O s9,O s10,Z I s11,Z I s12,O s13,O oP,O s15,O s16,O oU,O pU,Z I oO,Z I s20,Z I qb,Z I oN,Z I DX,Z I s24]) w :=
 run_loadVar_row w b 45 45 _ (0,0) _ h Tryz.underlying45 rfl zk
theorem qC {f:FuncId} {caps:Array Value} {k:Int} {s11 s12 oO s20 qb oN DX s24:Int} {s1 s2 s3 s4 s5 s6 s7 s8 s9 s10 s13 oP s15 s16 oU pU:ByteArray} (w:World) (HC:∀ W,Below w.heap.size w W→Calls Tryz.prog f caps W (Try W (aB #[O s1,O s2,O s3,O s4,O s5,O s6,O s7,O s8,O s9,O s10,Z I s11,Z I s12,O s13,O oP,O s15,O s16,O oU,O pU,Z I oO,Z I s20,Z I qb,Z I oN,Z I DX,Z I s24]) k))
  (hf:∀ args W,(callFunc f args).run Tryz.prog W= .ok (.enter f args) W) :
  Calls Tryz.prog 31 #[.func (.func f) #[] caps] w (JE w (aB #[O s1,O s2,O s3,O s4,O s5,O s6,O s7,O s8,O s9,O s10,Z I s11,Z I s12,O s13,O oP,O s15,O s16,O oU,O pU,Z I oO,Z I s20,Z I qb,Z I oN,Z I DX,Z I s24]) (aB #[O ⟨#[]⟩,O ⟨#[]⟩,O ⟨#[]⟩,O ⟨#[]⟩,O ⟨#[]⟩,O ⟨#[]⟩,O ⟨#[]⟩,O ⟨#[]⟩,O ⟨#[]⟩,O ⟨#[]⟩,Z I 0,Z I 0,O ⟨#[]⟩,O ⟨#[]⟩,O ⟨#[]⟩,O ⟨#[]⟩,O ⟨#[]⟩,O ⟨#[]⟩,Z I 0,Z I 0,Z I 0,Z I 0,Z I 0,Z I 0]) k):=by
 have Kv:∀ (fn:Fn) (first cap:Array Value) (w:World),(Instr.makeFunc fn first cap).run Tryz.prog w= .ok (.func fn first cap) w:=fun _ _ _ _=>rfl;have JC:=zh HC;clear HC;have hb0:Below w.heap.size w ((w.alloc (.cells #[O ⟨#[]⟩,O ⟨#[]⟩,O ⟨#[]⟩,O ⟨#[]⟩,O ⟨#[]⟩,O ⟨#[]⟩,O ⟨#[]⟩,O ⟨#[]⟩,O ⟨#[]⟩,O ⟨#[]⟩,Z I 0,Z I 0,O ⟨#[]⟩,O ⟨#[]⟩,O ⟨#[]⟩,O ⟨#[]⟩,O ⟨#[]⟩,O ⟨#[]⟩,Z I 0,Z I 0,Z I 0,Z I 0,Z I 0,Z I 0] 45)).alloc (.cells #[Z I 0] 28)):=aO
 obtain ⟨w0,oq⟩:∃ y,(w.alloc (.cells #[O ⟨#[]⟩,O ⟨#[]⟩,O ⟨#[]⟩,O ⟨#[]⟩,O ⟨#[]⟩,O ⟨#[]⟩,O ⟨#[]⟩,O ⟨#[]⟩,O ⟨#[]⟩,O ⟨#[]⟩,Z I 0,Z I 0,O ⟨#[]⟩,O ⟨#[]⟩,O ⟨#[]⟩,O ⟨#[]⟩,O ⟨#[]⟩,O ⟨#[]⟩,Z I 0,Z I 0,Z I 0,Z I 0,Z I 0,Z I 0] 45)).alloc (.cells #[Z I 0] 28)=y:=⟨_,rfl⟩;have hx1:aA w0 w.heap.size #[O ⟨#[]⟩,O ⟨#[]⟩,O ⟨#[]⟩,O ⟨#[]⟩,O ⟨#[]⟩,O ⟨#[]⟩,O ⟨#[]⟩,O ⟨#[]⟩,O ⟨#[]⟩,O ⟨#[]⟩,Z I 0,Z I 0,O ⟨#[]⟩,O ⟨#[]⟩,O ⟨#[]⟩,O ⟨#[]⟩,O ⟨#[]⟩,O ⟨#[]⟩,Z I 0,Z I 0,Z I 0,Z I 0,Z I 0,Z I 0] 45:=by rw [← oq];exact aY
 have hx2:aA w0 (w.heap.size+1) #[Z I 0] 28:=by rw [← oq];exact aY
 rw [oq] at hb0
 go_enter_defers Tryz.func31,Tryz.ntmps31
 go_wp2_with fail
 refine (JC.out _ hb0).mono ?_;rintro e w1 ⟨hb1,⟨rfl,rfl⟩|⟨h,rfl⟩⟩
 ·replace hx1:=hx1.later hb1;replace hx2:=hx2.later hb1;have hne:w.heap.size≠w.heap.size+1:=by omega
  have hx3:aA (w1.setRow w.heap.size #[O s1,O s2,O s3,O s4,O s5,O s6,O s7,O s8,O s9,O s10,Z I s11,Z I s12,O s13,O oP,O s15,O s16,O oU,O pU,Z I oO,Z I s20,Z I qb,Z I oN,Z I DX,Z I s24]) w.heap.size #[O s1,O s2,O s3,O s4,O s5,O s6,O s7,O s8,O s9,O s10,Z I s11,Z I s12,O s13,O oP,O s15,O s16,O oU,O pU,Z I oO,Z I s20,Z I qb,Z I oN,Z I DX,Z I s24] 45:=setRow_heap _ _ _ _ _ _ hx1
  have hx4:aA (w1.setRow w.heap.size #[O s1,O s2,O s3,O s4,O s5,O s6,O s7,O s8,O s9,O s10,Z I s11,Z I s12,O s13,O oP,O s15,O s16,O oU,O pU,Z I oO,Z I s20,Z I qb,Z I oN,Z I DX,Z I s24]) (w.heap.size+1) #[Z I 0] 28:=by
   unfold aA at *;rw [setRow_other _ _ _ _ zo];exact hx2
  have hbw:Below w.heap.size w (w1.setRow w.heap.size #[O s1,O s2,O s3,O s4,O s5,O s6,O s7,O s8,O s9,O s10,Z I s11,Z I s12,O s13,O oP,O s15,O s16,O oU,O pU,Z I oO,Z I s20,Z I qb,Z I oN,Z I DX,Z I s24]):=below_setRow (Bt hb0 hb1) (aG _) _;have c2:=hx4.cell;have f2:=hx4.free;have Rl:=zh hx1
  have QN:Hid (aA ((w1.setRow w.heap.size #[O s1,O s2,O s3,O s4,O s5,O s6,O s7,O s8,O s9,O s10,Z I s11,Z I s12,O s13,O oP,O s15,O s16,O oU,O pU,Z I oO,Z I s20,Z I qb,Z I oN,Z I DX,Z I s24]).setCell ⟨w.heap.size+1,0,none⟩ (Z I 0)) w.heap.size #[O s1,O s2,O s3,O s4,O s5,O s6,O s7,O s8,O s9,O s10,Z I s11,Z I s12,O s13,O oP,O s15,O s16,O oU,O pU,Z I oO,Z I s20,Z I qb,Z I oN,Z I DX,Z I s24] 45):=zh aY
  have Ye:Hid (aA ((w1.setRow w.heap.size #[O s1,O s2,O s3,O s4,O s5,O s6,O s7,O s8,O s9,O s10,Z I s11,Z I s12,O s13,O oP,O s15,O s16,O oU,O pU,Z I oO,Z I s20,Z I qb,Z I oN,Z I DX,Z I s24]).setCell ⟨w.heap.size+1,0,none⟩ (Z I 0)) (w.heap.size+1) #[Z I 0] 28):=zh (by
   apply mO
   ·exact aY
   ·simp only [List.setIfInBounds_toArray,aI,aJ])
  have Yn:Hid (Below w.heap.size w ((w1.setRow w.heap.size #[O s1,O s2,O s3,O s4,O s5,O s6,O s7,O s8,O s9,O s10,Z I s11,Z I s12,O s13,O oP,O s15,O s16,O oU,O pU,Z I oO,Z I s20,Z I qb,Z I oN,Z I DX,Z I s24]).setCell ⟨w.heap.size+1,0,none⟩ (Z I 0))):=zh aO;clear hx3 hx4 hbw oq hx1 hx2 hb0 hb1;have h1c:(#[O s1,O s2,O s3,O s4,O s5,O s6,O s7,O s8,O s9,O s10,Z I s11,Z I s12,O s13,O oP,O s15,O s16,O oU,O pU,Z I oO,Z I s20,Z I qb,Z I oN,Z I DX,Z I s24]:Array Value).all (·.oneCell')=true:=by simp [Value.oneCell']
  have hic:(Tryz.prog.info? 45).map (·.size)=some (#[O s1,O s2,O s3,O s4,O s5,O s6,O s7,O s8,O s9,O s10,Z I s11,Z I s12,O s13,O oP,O s15,O s16,O oU,O pU,Z I oO,Z I s20,Z I qb,Z I oN,Z I DX,Z I s24]:Array Value).size:=by kernel_rfl
  go_wp2_with (refine wpList_store_row rfl 45 (.tmp 2) (.tmp 6) rfl w.heap.size #[O s1,O s2,O s3,O s4,O s5,O s6,O s7,O s8,O s9,O s10,Z I s11,Z I s12,O s13,O oP,O s15,O s16,O oU,O pU,Z I oO,Z I s20,Z I qb,Z I oN,Z I DX,Z I s24] rfl rfl 45 #[O ⟨#[]⟩,O ⟨#[]⟩,O ⟨#[]⟩,O ⟨#[]⟩,O ⟨#[]⟩,O ⟨#[]⟩,O ⟨#[]⟩,O ⟨#[]⟩,O ⟨#[]⟩,O ⟨#[]⟩,Z I 0,Z I 0,O ⟨#[]⟩,O ⟨#[]⟩,O ⟨#[]⟩,O ⟨#[]⟩,O ⟨#[]⟩,O ⟨#[]⟩,Z I 0,Z I 0,Z I 0,Z I 0,Z I 0,Z I 0] Rl.out hic rfl h1c ?_)
  refine leaves_cons (f:=67) (args:=#[au (some ⟨w.heap.size,0,none⟩),au (some ⟨w.heap.size+1,0,none⟩)]) zi (by simp [go_sem]) ?_;refine (Gt _ _ _).mono ?_;rintro e u' w'' ⟨rfl,rfl,rfl⟩;exact ⟨_,dJ rfl rfl rfl (Pj QN.out) (iH Ye.out),Yn.out,.inl ⟨rfl,rfl⟩⟩
 ·replace hx1:=hx1.later hb1;replace hx2:=hx2.later hb1
  change bodyPostD _ _ _ (Exit.panic [{ v:=.iface 101 (aB #[Z I k]),recovered:=false }]) _ _
  refine leaves_cons (f:=67) (args:=#[au (some ⟨w.heap.size,0,none⟩),au (some ⟨w.heap.size+1,0,none⟩)]) zi (by simp [go_sem]) ?_;refine (XD w.heap.size (w.heap.size+1) _ _ _ _ _ _ _ _ _ _ _ _ _ _ _ _ _ _ _ _ _ _ _ _ _ k _ hx1 hx2).mono ?_;rintro e u' w'' ⟨rfl,rfl,hy1,hy2,hbb⟩;exact ⟨_,dJ rfl rfl rfl (Pj hy1) (iH hy2),hbb w (aG _) zo (Bt hb0 hb1),.inr ⟨h,rfl⟩⟩
end Go.Proofs.view
