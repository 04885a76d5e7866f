/- Lemmas for the proof. No condition. -/
import Derived.Test.YtpoecfpbafpokaaGreatDoorSB01
import Derived.Test.YtpoecfpbafpokaaGreatDoorSB02
import Derived.OwnWalk
import Derived.Laws.MakeOwn
set_option linter.unusedVariables false
set_option linter.unusedSimpArgs false
set_option maxRecDepth 100000
set_option maxHeartbeats 16000000
namespace Go.SW
open Go Go.RowKit
structure Wk (P : Program) (ops : Array Oper) (Q : Exit → Act → World → Prop) (N : Nat) (is : List (K × Nat)) (A : List Nat) (a : Act) (w : World) : Prop where
  out : walk P ops Q N is A a w
variable {P : Program} {ops : Array Oper} {Q : Exit → Act → World → Prop} {o : Oper} {i : Nat} {is : List (K × Nat)} {a : Act} {w : World} {N : Nat} {A : List Nat}
theorem wk_nil (h : ∀ w', Below w.heap.size w w' → Q .normal a w') : Wk P ops Q N [] A a w := ⟨walk_nil h⟩
theorem wk_skip {k : K} (hk : k.soft = true) (ho : ops[i]? = some o) (hw : Region.wanted o (yielded ops a.tmps) = false) (h : ∀ J : Act → Prop, (∀ a, Wk P ops Q N is A a w → J a) → J (a.put o.dst undef)) : Wk P ops Q N ((k, i) :: is) A a w :=
  ⟨walk_skip hk ho hw fun J hJ => h J fun a ha => hJ a ha.out⟩
theorem wk_pure (ho : ops[i]? = some o) (hw : Region.wanted o (yielded ops a.tmps) = true) (h : ∀ J : Act → Prop, (∀ a, Wk P ops Q N is A a w → J a) → ∃ v, (∀ w', (execOp a.eval o).run P w' = .ok (.value v) w') ∧ J (a.put o.dst v)) : Wk P ops Q N ((.pure, i) :: is) A a w :=
  ⟨walk_pureG ho hw fun J hJ => h J fun a ha => hJ a ha.out⟩
theorem wk_load {T : TypeId} {x : Operand} {p : Addr} (ho : ops[i]? = some o) (hw : Region.wanted o (yielded ops a.tmps) = true) (hop : o.op = .load T x) (hx : a.eval x = .pointer (some p))
    (h : ∀ J : Value → Prop, (∀ v, Wk P ops Q N is A (a.put o.dst v) w → J v) → (w.cell? p).isSome = true ∧ ∃ v, (loadVar T p).run P w = .ok v w ∧ J v) : Wk P ops Q N ((.read, i) :: is) A a w :=
  ⟨walk_loadG ho hw hop hx fun J hJ => h J fun v hv => hJ v hv.out⟩
theorem wk_ext (ho : ops[i]? = some o) (hw : Region.wanted o (yielded ops a.tmps) = true) (h : ∀ w', Below w.heap.size w w' → ∀ J : Act → World → Prop, (∀ a' w'', Below w'.heap.size w' w'' → Wk P ops Q N is A a' w'' → J a' w'') → o.wp P a w' J Q) : Wk P ops Q N ((.ext, i) :: is) A a w :=
  ⟨walk_extG ho hw fun w' hb J hJ => h w' hb J fun a' w'' hb' hk => hJ a' w'' hb' hk.out⟩
theorem wk_fin (l : List Oper) (hl : (i :: is.map (·.2)).map (ops[·]?) = l.map some) (h : ∀ w', Below w.heap.size w w' → wpList P ops Q l a w') : Wk P ops Q N ((.fin, i) :: is) A a w := ⟨walk_fin l hl h⟩
theorem wk_alloc {cs : Array Value} {T : TypeId} (ho : ops[i]? = some o) (h : ∀ b w', Below w.heap.size w w' → N ≤ b → b < w'.heap.size → b ∉ A → w'.heap[b]? = some (.cells cs T (0, 0)) → Wk P ops Q N is (b :: A) (a.put o.dst (.pointer (some ⟨b, 0, none⟩))) w') : Wk P ops Q N ((.alloc cs T, i) :: is) A a w :=
  ⟨walk_alloc ho fun b w' h1 h2 h3 h4 h5 => (h b w' h1 h2 h3 h4 h5).out⟩
theorem wk_len {t : TypeId} {x : Operand} {p : Option Addr} {n c : Nat} (ho : ops[i]? = some o) (hw : Region.wanted o (yielded ops a.tmps) = true) (hop : o.op = .call { callee := .builtin .len, args := #[x], argTypes := #[t] }) (hx : a.eval x = .slice p n c) (ht : P.underlying t = some (.slice (P.elem t)))
    (h : ∀ J : Act → Prop, (∀ a, Wk P ops Q N is A a w → J a) → J (a.put o.dst (.int .i64 n))) : Wk P ops Q N ((.pure, i) :: is) A a w :=
  wk_pure ho hw fun J hJ => ⟨.int .i64 n, fun w' => by simp [execOp, hop, hx, resolve, invoke, builtin, Sem.run_bind, run_len_slice w' _ _ _ _ _ ht, goInt], h J hJ⟩
end Go.SW
namespace Go.Fra
open Go Go.RowKit Go.Num Go.Mem Go.Proofs
theorem infoB : (Tryz.prog.info? 23).map (fun i => (i.zero, i.size, i.bytes)) = some (some (.agg #[.int .i64 0, .int .i64 0]), 2, 16) := by kernel_rfl
def Zb (n : Nat) (cs : Array Value) : Prop := ∀ i, i < n → cs[i * 2]? = some (.int .i64 0) ∧ cs[i * 2 + 1]? = some (.int .i64 0)
theorem made_bands (n : Nat) (hn : n ≤ 1000) (z : Int) (hz : z = (n : Int)) : ∃ cs : Array Value, Zb n cs ∧ ∀ W : World, (Instr.makeSlice 55 (.int .i64 z) (.int .i64 z)).run Tryz.prog W = .ok (.slice (some ⟨W.heap.size, 0, none⟩) n n) (W.alloc (.cells cs 23)) := by
  subst hz
  obtain ⟨i0, hi, hz0, hz1, hz2⟩ := info_parts infoB
  refine ⟨madeCells (Value.agg #[.int .i64 0, .int .i64 0]).cells (n * 2), fun i hi => ?_, fun W => ?_⟩
  · have e : (Value.agg #[.int .i64 0, .int .i64 0]).cells = #[.int .i64 0, .int .i64 0] := rfl
    rw [e]
    unfold madeCells
    constructor
    · rw [Array.getElem?_map, Array.getElem?_range, if_pos zo]
      simp
    · rw [Array.getElem?_map, Array.getElem?_range, if_pos zo]
      simp [Nat.add_mod]
  · have := run_makeSlice (P := Tryz.prog) W 55 23 i0 (.agg #[.int .i64 0, .int .i64 0]) Tryz.underlying55 hi hz0 .i64 .i64 (n : Int) (n : Int) zo (Int.le_refl _) (by rw [hz1]; simp; omega) (by rw [hz2]; omega) zo
    rw [hz1] at this
    simpa using this
theorem Bds.zeros {w : World} {T : TypeId} {b n : Nat} {cs : Array Value} (h : Box w b cs T) (hz : Zb n cs) (hn : n ≤ 1000) : Bds w T (.slice (some ⟨b, 0, none⟩) n n) (List.replicate n (0, 0)) := by
  refine Bds.of_box h zi (Nat.le_refl _) zo fun i hi => ?_
  have hi' : i < n := by simpa using hi
  have := hz i hi'
  simp only [List.getElem_replicate]
  exact this
end Go.Fra
