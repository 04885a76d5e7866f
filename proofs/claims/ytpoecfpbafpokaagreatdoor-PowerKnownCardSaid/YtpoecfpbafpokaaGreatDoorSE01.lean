/- Lemmas for the proof. No condition. -/
import Derived.Test.YtpoecfpbafpokaaGreatDoorSB01
import Derived.Test.YtpoecfpbafpokaaGreatDoorSB03
import Derived.Test.YtpoecfpbafpokaaGreatDoorProg
import Derived.KernelRfl
set_option linter.unusedVariables false
set_option linter.unusedSimpArgs false
set_option maxRecDepth 100000
set_option maxHeartbeats 16000000
namespace Go.SW
open Go Go.RowKit
variable {P : Program} {ops : Array Oper} {Q : Exit → Act → World → Prop}
def addL (x y : Nat) : Nat → List Oper → List Oper
  | _, [] => []
  | k, o :: l => (match k.beq y with
    | true => ⟨o.dst, o.op, o.type, o.pos, o.after.push ⟨x, .chain⟩, o.guard⟩
    | false => o) :: addL x y (k + 1) l
def addE (x y : Nat) (ops : Array Oper) : Array Oper := (addL x y 0 ops.toList).toArray
def wait (x : Nat) (o : Oper) : Oper := ⟨o.dst, o.op, o.type, o.pos, o.after.push ⟨x, .chain⟩, o.guard⟩
theorem addL_get (x y : Nat) : ∀ (l : List Oper) (k i : Nat), (addL x y k l)[i]? = (l[i]?).map fun o => if k + i = y then wait x o else o
  | [], _, _ => by simp [addL]
  | o :: l, k, 0 => by
    unfold addL
    rw [List.getElem?_cons_zero, List.getElem?_cons_zero]
    cases h : k.beq y with
    | true => rw [Nat.eq_of_beq_eq_true h]; simp [wait]
    | false =>
      have := Nat.ne_of_beq_eq_false h
      simp [this]
  | o :: l, k, i + 1 => by
    unfold addL
    rw [List.getElem?_cons_succ, List.getElem?_cons_succ, addL_get x y l (k + 1) i]
    have : k + 1 + i = k + (i + 1) := by omega
    rw [this]
theorem addE_get (x y i : Nat) (ops : Array Oper) : (addE x y ops)[i]? = (ops[i]?).map fun o => if i = y then wait x o else o := by
  unfold addE
  rw [List.getElem?_toArray, addL_get, Nat.zero_add, Array.getElem?_toList]
theorem addL_length (x y : Nat) : ∀ (l : List Oper) (k : Nat), (addL x y k l).length = l.length
  | [], _ => rfl
  | o :: l, k => by unfold addL; rw [List.length_cons, List.length_cons, addL_length x y l]
theorem addE_size (x y : Nat) (ops : Array Oper) : (addE x y ops).size = ops.size := by
  unfold addE
  rw [List.size_toArray, addL_length, Array.length_toList]
theorem addE_yielded (x y : Nat) (tmps : Array Value) (g : Nat) : yielded (addE x y ops) tmps g = yielded ops tmps g := by
  unfold yielded
  rw [addE_get]
  cases ops[g]? with
  | none => rfl
  | some o =>
    have e : (if g = y then wait x o else o).dst = o.dst := by split <;> rfl
    simp only [Option.map_some, Option.bind_some, e]
theorem addE_wpOps (x y : Nat) : ∀ (l : List Nat) (a : Act) (w : World), wpOps P (addE x y ops) Q l a w → wpOps P ops Q l a w
  | [], _, _, h => h
  | i :: l, a, w, h => by
    have ih := addE_wpOps x y l
    unfold wpOps at h ⊢
    rw [addE_get] at h
    have hy : yielded (addE x y ops) a.tmps = yielded ops a.tmps := funext fun g => addE_yielded x y _ g
    rw [hy] at h
    cases ho : ops[i]? with
    | none =>
      simp only [ho, Option.map_none] at h ⊢
      exact ih _ _ h
    | some o =>
      simp only [ho, Option.map_some] at h ⊢
      by_cases hi : i = y
      · simp only [hi, if_true] at h
        have e1 : Region.wanted (wait x o) (yielded ops a.tmps) = Region.wanted o (yielded ops a.tmps) := rfl
        rw [e1] at h
        split
        · rename_i hw
          simp only [hw, if_true] at h
          rcases h with h | h
          · exact .inl (Oper.wp_mono ih h)
          · exact .inr h
        · rename_i hw
          simp only [hw, if_false, Bool.false_eq_true] at h
          exact ih _ _ h
      · simp only [hi, if_false] at h
        split
        · rename_i hw
          simp only [hw, if_true] at h
          rcases h with h | h
          · exact .inl (Oper.wp_mono ih h)
          · exact .inr h
        · rename_i hw
          simp only [hw, if_false, Bool.false_eq_true] at h
          exact ih _ _ h
theorem ready_of {x y i : Nat} {listed : Array Bool} (h : i ∈ Region.ready .any ops listed) (hy : i = y → listed.getD x false = true) : i ∈ Region.ready .any (addE x y ops) listed := by
  obtain ⟨h1, o, h2, h3⟩ := mem_ready.1 h
  refine mem_ready.2 ⟨h1, _, by rw [addE_get, h2]; rfl, fun e he hb => ?_⟩
  split at he
  · rename_i hi
    rcases Array.mem_push.1 he with he | he
    · exact h3 e he hb
    · rw [he]
      exact hy hi
  · exact h3 e he hb
theorem ready_to {x y i : Nat} {listed : Array Bool} (h : i ∈ Region.ready .any (addE x y ops) listed) : i ∈ Region.ready .any ops listed := by
  obtain ⟨h1, o', h2, h3⟩ := mem_ready.1 h
  rw [addE_get] at h2
  cases ho : ops[i]? with
  | none => rw [ho] at h2; cases h2
  | some o =>
    rw [ho, Option.map_some, Option.some.injEq] at h2
    refine mem_ready.2 ⟨h1, o, ho, fun e he hb => h3 e ?_ hb⟩
    rw [← h2]
    split
    · exact Array.mem_push.2 (.inl he)
    · exact he
theorem go_pick {i fuel : Nat} {listed : Array Bool} (h : i ∈ Region.ready .any ops listed) (t : Nat) :
    ∃ t', Region.linearise.go .any ops (fuel + 1) t' listed [] = i :: Region.linearise.go .any ops fuel t (listed.setIfInBounds i true) [] := by
  obtain ⟨k, hk, hi⟩ := List.getElem_of_mem h
  refine ⟨k + (Region.ready .any ops listed).length * t, ?_⟩
  simp only [Region.linearise.go]
  change (match (Region.ready .any ops listed)[(k + (Region.ready .any ops listed).length * t) % (Region.ready .any ops listed).length]? with
      | some i => Region.linearise.go .any ops fuel ((k + (Region.ready .any ops listed).length * t) / (Region.ready .any ops listed).length) (listed.setIfInBounds i true) [i]
      | none => [].reverse) = _
  have e1 : (k + (Region.ready .any ops listed).length * t) % (Region.ready .any ops listed).length = k := by
    rw [Nat.add_mul_mod_self_left, Nat.mod_eq_of_lt hk]
  have e2 : (k + (Region.ready .any ops listed).length * t) / (Region.ready .any ops listed).length = t := by
    rw [Nat.add_mul_div_left _ _ (Nat.lt_of_le_of_lt (Nat.zero_le _) hk), Nat.div_eq_of_lt hk, Nat.zero_add]
  rw [e1, e2, List.getElem?_eq_getElem hk, hi]
  simp only []
  rw [linearise_go_acc, List.reverse_singleton, List.singleton_append]
theorem go_step (fuel t : Nat) (listed : Array Bool) :
    (Region.ready .any ops listed = [] ∧ Region.linearise.go .any ops (fuel + 1) t listed [] = []) ∨
    ∃ i ∈ Region.ready .any ops listed, ∃ t', Region.linearise.go .any ops (fuel + 1) t listed [] = i :: Region.linearise.go .any ops fuel t' (listed.setIfInBounds i true) [] := by
  simp only [Region.linearise.go]
  change (_ ∧ (match (Region.ready .any ops listed)[t % (Region.ready .any ops listed).length]? with
      | some i => Region.linearise.go .any ops fuel (t / (Region.ready .any ops listed).length) (listed.setIfInBounds i true) [i]
      | none => [].reverse) = []) ∨ ∃ i ∈ Region.ready .any ops listed, ∃ t', (match (Region.ready .any ops listed)[t % (Region.ready .any ops listed).length]? with
      | some i => Region.linearise.go .any ops fuel (t / (Region.ready .any ops listed).length) (listed.setIfInBounds i true) [i]
      | none => [].reverse) = _
  cases hi : (Region.ready .any ops listed)[t % (Region.ready .any ops listed).length]? with
  | none =>
    left
    refine ⟨?_, rfl⟩
    cases hr : Region.ready .any ops listed with
    | nil => rfl
    | cons x xs =>
      rw [hr] at hi
      have hlt : t % (x :: xs).length < (x :: xs).length := Nat.mod_lt _ zi
      simp at hi
      simp at hlt
      omega
  | some i =>
    right
    refine ⟨i, List.mem_of_getElem? hi, t / (Region.ready .any ops listed).length, ?_⟩
    simp only []
    rw [linearise_go_acc, List.reverse_singleton, List.singleton_append]
theorem go_empty {fuel t : Nat} {listed : Array Bool} (h : Region.ready .any ops listed = []) : Region.linearise.go .any ops (fuel + 1) t listed [] = [] := by
  rcases go_step (ops := ops) fuel t listed with ⟨-, h2⟩ | ⟨i, hi, -⟩
  · exact h2
  · rw [h] at hi
    cases hi
theorem go_listed {x y : Nat} : ∀ (fuel t : Nat) (listed : Array Bool), listed.getD x false = true → ∃ t', Region.linearise.go .any ops fuel t listed [] = Region.linearise.go .any (addE x y ops) fuel t' listed []
  | 0, t, listed, _ => ⟨t, rfl⟩
  | fuel + 1, t, listed, hx => by
    rcases go_step (ops := ops) fuel t listed with ⟨h1, h2⟩ | ⟨i, hi, t', h⟩
    · refine ⟨0, ?_⟩
      rw [h2, go_empty]
      cases hr : Region.ready .any (addE x y ops) listed with
      | nil => rfl
      | cons i l =>
        have := ready_to (x := x) (y := y) (i := i) (by rw [hr]; exact List.mem_cons_self)
        rw [h1] at this
        cases this
    · obtain ⟨t2, h2⟩ := go_listed fuel t' (listed.setIfInBounds i true) (getD_set_true hx)
      obtain ⟨t3, h3⟩ := go_pick (fuel := fuel) (ready_of (y := y) hi fun _ => hx) t2
      exact ⟨t3, by rw [h, h2, h3]⟩
theorem go_two {x y : Nat} (hxy : x ≠ y) : ∀ (fuel t : Nat) (listed : Array Bool),
    (∃ t', Region.linearise.go .any ops fuel t listed [] = Region.linearise.go .any (addE x y ops) fuel t' listed []) ∨
    (∃ t', Region.linearise.go .any ops fuel t listed [] = Region.linearise.go .any (addE y x ops) fuel t' listed [])
  | 0, t, listed => .inl ⟨t, rfl⟩
  | fuel + 1, t, listed => by
    rcases go_step (ops := ops) fuel t listed with ⟨h1, h2⟩ | ⟨i, hi, t', h⟩
    · refine .inl ⟨0, ?_⟩
      rw [h2, go_empty]
      cases hr : Region.ready .any (addE x y ops) listed with
      | nil => rfl
      | cons i l =>
        have := ready_to (x := x) (y := y) (i := i) (by rw [hr]; exact List.mem_cons_self)
        rw [h1] at this
        cases this
    · have hset : ∀ j, i = j → (listed.setIfInBounds i true).getD j false = true := fun j hj => by
        subst hj
        have := (mem_ready.1 hi).1
        rcases Nat.lt_or_ge i listed.size with h' | h'
        · simp [h']
        · simp [Array.getElem?_eq_none h'] at this
      by_cases hix : i = x
      · obtain ⟨t2, h2⟩ := go_listed (ops := ops) (x := x) (y := y) fuel t' _ (hset x hix)
        obtain ⟨t3, h3⟩ := go_pick (fuel := fuel) (ready_of (x := x) (y := y) hi fun e => absurd (hix.symm.trans e) hxy) t2
        exact .inl ⟨t3, by rw [h, h2, h3]⟩
      · by_cases hiy : i = y
        · obtain ⟨t2, h2⟩ := go_listed (ops := ops) (x := y) (y := x) fuel t' _ (hset y hiy)
          obtain ⟨t3, h3⟩ := go_pick (fuel := fuel) (ready_of (x := y) (y := x) hi fun e => absurd e hix) t2
          exact .inr ⟨t3, by rw [h, h2, h3]⟩
        · rcases go_two hxy fuel t' (listed.setIfInBounds i true) with ⟨t2, h2⟩ | ⟨t2, h2⟩
          · obtain ⟨t3, h3⟩ := go_pick (fuel := fuel) (ready_of (x := x) (y := y) hi fun e => absurd e hiy) t2
            exact .inl ⟨t3, by rw [h, h2, h3]⟩
          · obtain ⟨t3, h3⟩ := go_pick (fuel := fuel) (ready_of (x := y) (y := x) hi fun e => absurd e hix) t2
            exact .inr ⟨t3, by rw [h, h2, h3]⟩
structure Reg (P : Program) (ops : Array Oper) (Q : Exit → Act → World → Prop) (a : Act) (w : World) : Prop where
  out : ∀ t, wpOps P ops Q (Region.linearise .any ops t) a w
theorem reg_in {id : Nat} {a : Act} {w : World} (hm : P.follows .mixedOrders = true) (h : Reg P ops Q a w.drew) : (Code.region id ops true).wp P Q a w :=
  wp_region_draw fun t => by
    simp only [Region.schedule, hm, Bool.true_or, if_true]
    exact h.out t
theorem reg_two {a : Act} {w : World} (x y : Nat) (hxy : x ≠ y) (h1 : Reg P (addE x y ops) Q a w) (h2 : Reg P (addE y x ops) Q a w) : Reg P ops Q a w := ⟨fun t => by
  unfold Region.linearise
  rcases go_two (ops := ops) hxy ops.size t (Array.replicate ops.size false) with ⟨t', h⟩ | ⟨t', h⟩
  · rw [h]
    have := h1.out t'
    unfold Region.linearise at this
    rw [addE_size] at this
    exact addE_wpOps x y _ _ _ this
  · rw [h]
    have := h2.out t'
    unfold Region.linearise at this
    rw [addE_size] at this
    exact addE_wpOps y x _ _ _ this⟩
def orderedBy (l : List Nat) (ops : Array Oper) : Bool := (List.range ops.size).all fun i => match ops[i]? with
  | some o => o.after.all (fun e => !Region.binds .any e || (decide (l.idxOf e.on < l.idxOf i) && decide (e.on < ops.size)))
  | none => true
theorem led_by {l : List Nat} (ho : orderedBy l ops = true) : Led ops := fun listed hsz hr i hi => by
  have key : ∀ n i, l.idxOf i = n → i < ops.size → listed.getD i true = true := by
    intro n
    induction n using Nat.strongRecOn with
    | _ n ih =>
      intro i hn hi
      cases hl : listed.getD i true with
      | true => rfl
      | false =>
        exfalso
        have ho' : ops[i]? = some ops[i] := by simp [hi]
        have hmem : i ∈ Region.ready .any ops listed := mem_ready.2 ⟨hl, ops[i], ho', fun e he hb => by
          unfold orderedBy at ho
          have h1 := List.all_eq_true.1 ho i (List.mem_range.2 hi)
          simp only [ho'] at h1
          have h2 := Array.all_eq_true_iff_forall_mem.1 h1 e he
          simp only [hb, Bool.not_true, Bool.false_or, Bool.and_eq_true, decide_eq_true_eq] at h2
          have h3 := ih _ zo e.on rfl h2.2
          have : e.on < listed.size := by omega
          simpa [this] using h3⟩
        rw [hr] at hmem
        cases hmem
  exact key _ i rfl hi
def check2 (ops : Array Oper) (is : List (K × Nat)) : Bool :=
  Region.noSelect ops && orderedBy (is.map (·.2)) ops && okList ops is && decide (is.map (·.2)).Nodup && decide (is.length ≤ ops.size) && (List.range ops.size).all (fun i => (is.map (·.2)).contains i)
theorem reg_walk {a : Act} {w : World} (is : List (K × Nat)) (hc : check2 ops is = true) (hal : AllocRuns P ops is)
    (hQ : ∀ c (a s : Act) w, s.defers = a.defers → Q (.panic c) a w → Q (.panic c) s w)
    (h : walk P ops Q w.heap.size is [] a w) : Reg P ops Q a w := ⟨fun t => by
  unfold check2 at hc
  simp only [Bool.and_eq_true, decide_eq_true_eq] at hc
  obtain ⟨⟨⟨⟨⟨h1, h2⟩, h3⟩, h4⟩, h5⟩, h6⟩ := hc
  unfold Region.linearise
  refine wpAny_sound _ _ _ _ _ ?_
  refine phase_main h1 (led_by h2) hQ w.heap.size ops.size is [] [] [] _ a a w ?_ ?_ h3 h4 zi zi hal ?_ h
  · rw [allocWith_nil]; exact h5
  · refine ⟨by simp, fun i hi => ?_, fun j o hj hl => ?_, rfl, rfl, fun t _ _ => rfl, by simp, by simp, by simp, by simp⟩
    · have hmem : i ∈ is.map (·.2) := by simpa using List.all_eq_true.1 h6 i (List.mem_range.2 hi)
      simp [hi]
      simpa using hmem
    · have hj' := (Array.getElem?_eq_some_iff.1 hj).1
      simp [hj'] at hl
  · exact ⟨by simp, by simp, by simp, by simp, Nat.le_refl _⟩⟩
end Go.SW
namespace Go.SW
open Go Go.RowKit
variable {P : Program} {ops : Array Oper} {Q : Exit → Act → World → Prop}
theorem addE_some {x y i : Nat} {o : Oper} (h : ops[i]? = some o) : ∃ o', (addE x y ops)[i]? = some o' ∧ o'.dst = o.dst ∧ o'.op = o.op ∧ o'.guard = o.guard ∧ (∀ (a : Act) (w : World) K R, o.wp P a w K R → o'.wp P a w K R) ∧ (∀ f, Region.wanted o' f = Region.wanted o f) ∧ (∀ ρ, execOp ρ o' = execOp ρ o) ∧ ∀ (a : Act) (w : World), Oper.asks P o a w → Oper.asks P o' a w := by
  refine ⟨_, by rw [addE_get, h]; rfl, ?_, ?_, ?_, ?_, ?_, ?_, ?_⟩
  all_goals split <;> first | rfl | exact fun _ _ _ _ h => h | exact fun _ => rfl | exact fun _ _ h => h
theorem addE_wpOps' (x y : Nat) : ∀ (l : List Nat) (a : Act) (w : World), wpOps P ops Q l a w → wpOps P (addE x y ops) Q l a w
  | [], _, _, h => h
  | i :: l, a, w, h => by
    have ih := addE_wpOps' x y l
    unfold wpOps at h ⊢
    have hy : yielded (addE x y ops) a.tmps = yielded ops a.tmps := funext fun g => addE_yielded x y _ g
    rw [hy]
    cases ho : ops[i]? with
    | none =>
      rw [addE_get, ho, Option.map_none]
      simp only [ho] at h ⊢
      exact ih _ _ h
    | some o =>
      obtain ⟨o', h1, h2, h3, h4, h5, h6, h7, h8⟩ := addE_some (P := P) (x := x) (y := y) ho
      rw [h1]
      simp only [ho, h6, h2] at h ⊢
      split at h
      · rename_i hw
        rw [if_pos hw]
        rcases h with h | h
        · exact .inl (h5 _ _ _ _ (Oper.wp_mono ih h))
        · exact .inr ⟨h8 _ _ h.1, h.2⟩
      · rename_i hw
        rw [if_neg hw]
        exact ih _ _ h
theorem walk_addE (x y N : Nat) : ∀ (is : List (K × Nat)) (A : List Nat) (a : Act) (w : World), walk P ops Q N is A a w → walk P (addE x y ops) Q N is A a w
  | [], _, _, _, h => h
  | (k, i) :: is, A, a, w, h => by
    have ih := walk_addE x y N is
    unfold walk at h ⊢
    have hy : yielded (addE x y ops) a.tmps = yielded ops a.tmps := funext fun g => addE_yielded x y _ g
    rw [hy]
    cases ho : ops[i]? with
    | none => rw [ho] at h; exact h.elim
    | some o =>
      obtain ⟨o', h1, h2, h3, h4, h5, h6, h7, h8⟩ := addE_some (P := P) (x := x) (y := y) ho
      rw [ho] at h
      rw [h1]
      cases k with
      | pure =>
        simp only [h6, h7, h2] at h ⊢
        split at h
        · rename_i hw
          rw [if_pos hw]
          obtain ⟨v, k1, k2⟩ := h
          exact ⟨v, k1, ih _ _ _ k2⟩
        · rename_i hw
          rw [if_neg hw]
          exact ih _ _ _ h
      | read =>
        simp only [h6, h7, h2] at h ⊢
        split at h
        · rename_i hw
          rw [if_pos hw]
          obtain ⟨v, k1, k2⟩ := h
          exact ⟨v, k1, ih _ _ _ k2⟩
        · rename_i hw
          rw [if_neg hw]
          exact ih _ _ _ h
      | alloc cs T =>
        simp only [h2] at h ⊢
        exact fun b w' k1 k2 k3 k4 k5 => ih _ _ _ (h b w' k1 k2 k3 k4 k5)
      | ext =>
        simp only [h6, h2] at h ⊢
        split at h
        · rename_i hw
          rw [if_pos hw]
          exact fun w' k1 => h5 _ _ _ _ (Oper.wp_mono (fun a' w'' k => ⟨k.1, ih _ _ _ k.2⟩) (h w' k1))
        · rename_i hw
          rw [if_neg hw]
          exact ih _ _ _ h
      | fin =>
        exact fun w' k1 => addE_wpOps' x y _ _ _ (h w' k1)
theorem alloc_addE {x y : Nat} {is : List (K × Nat)} (h : AllocRuns P ops is) : AllocRuns P (addE x y ops) is := fun cs T j hj o' ho' => by
  rw [addE_get] at ho'
  cases ho : ops[j]? with
  | none => rw [ho] at ho'; cases ho'
  | some o =>
    rw [ho, Option.map_some, Option.some.injEq] at ho'
    obtain ⟨h1, h2⟩ := h cs T j hj o ho
    rw [← ho']
    split
    · exact ⟨h1, h2⟩
    · exact ⟨h1, h2⟩
inductive St | one (k : K) (i : Nat) | two (i j : Nat)
def orders : List St → List (List (K × Nat))
  | [] => [[]]
  | .one k i :: l => (orders l).map ((k, i) :: ·)
  | .two i j :: l => (orders l).map (fun m => (.ext, i) :: (.ext, j) :: m) ++ (orders l).map (fun m => (.ext, j) :: (.ext, i) :: m)
def cover : List (Nat × Nat) → Array Oper → List (Array Oper)
  | [], ops => [ops]
  | (i, j) :: ps, ops => cover ps (addE i j ops) ++ cover ps (addE j i ops)
def covered (ps : List (Nat × Nat)) (l : List St) (ops : Array Oper) : Bool := (ps.all fun p => !(p.1.beq p.2)) && (cover ps ops).all fun o => (orders l).any fun m => check2 o m
theorem reg_plan (l : List St) : ∀ (ps : List (Nat × Nat)) (ops : Array Oper) {a : Act} {w : World}, covered ps l ops = true → (∀ m ∈ orders l, AllocRuns P ops m) →
    (∀ c (a s : Act) w, s.defers = a.defers → Q (.panic c) a w → Q (.panic c) s w) → (∀ m ∈ orders l, walk P ops Q w.heap.size m [] a w) → Reg P ops Q a w
  | [], ops, a, w, hc, hal, hQ, h => by
    unfold covered cover at hc
    simp only [List.all_nil, Bool.true_and, List.all_cons, Bool.and_true, List.any_eq_true] at hc
    obtain ⟨m, hm, hc⟩ := hc
    exact reg_walk m hc (hal m hm) hQ (h m hm)
  | (i, j) :: ps, ops, a, w, hc, hal, hQ, h => by
    unfold covered cover at hc
    simp only [List.all_cons, List.all_append, Bool.and_eq_true, Bool.not_eq_true', ] at hc
    obtain ⟨⟨h1, h2⟩, h3, h4⟩ := hc
    refine reg_two i j (fun e => by rw [e, Nat.beq_refl] at h1; cases h1) (reg_plan l ps _ ?_ (fun m hm => alloc_addE (hal m hm)) hQ fun m hm => walk_addE _ _ _ _ _ _ _ (h m hm)) (reg_plan l ps _ ?_ (fun m hm => alloc_addE (hal m hm)) hQ fun m hm => walk_addE _ _ _ _ _ _ _ (h m hm))
    · unfold covered
      rw [Bool.and_eq_true]
      exact ⟨h2, h3⟩
    · unfold covered
      rw [Bool.and_eq_true]
      exact ⟨h2, h4⟩
structure Wp (P : Program) (ops : Array Oper) (Q : Exit → Act → World → Prop) (N : Nat) (l : List St) (A : List Nat) (a : Act) (w : World) : Prop where
  out : ∀ m ∈ orders l, Wk P ops Q N m A a w
theorem region_plan {id : Nat} {a : Act} {w : World} (l : List St) (ps : List (Nat × Nat)) (hm : P.follows .mixedOrders = true) (hc : covered ps l ops = true) (hal : (orders l).all (fun m => m.all fun k => !k.1.isAlloc) = true)
    (hQ : ∀ c (a s : Act) w, s.defers = a.defers → Q (.panic c) a w → Q (.panic c) s w) (h : Wp P ops Q w.drew.heap.size l [] a w.drew) : (Code.region id ops true).wp P Q a w :=
  reg_in hm (reg_plan l ps ops hc (fun m hm cs T j hj => by
    have := List.all_eq_true.1 (List.all_eq_true.1 hal m hm) _ hj
    cases this) hQ fun m hm => (h.out m hm).out)
variable {o : Oper} {i : Nat} {is : List St} {a : Act} {w : World} {N : Nat} {A : List Nat}
theorem wq_nil (h : ∀ w', Below w.heap.size w w' → Q .normal a w') : Wp P ops Q N [] A a w := ⟨fun m hm => by
  rw [List.mem_singleton.1 hm]
  exact wk_nil h⟩
theorem wq_one {k : K} (h : ∀ m ∈ orders is, Wk P ops Q N ((k, i) :: m) A a w) : Wp P ops Q N (.one k i :: is) A a w := ⟨fun m hm => by
  obtain ⟨m', h1, rfl⟩ := List.mem_map.1 hm
  exact h m' h1⟩
theorem wq_two {i j : Nat} (h1 : Wp P ops Q N (.one .ext i :: .one .ext j :: is) A a w) (h2 : Wp P ops Q N (.one .ext j :: .one .ext i :: is) A a w) : Wp P ops Q N (.two i j :: is) A a w := ⟨fun m hm => by
  rcases List.mem_append.1 hm with hm | hm
  · obtain ⟨m', k1, rfl⟩ := List.mem_map.1 hm
    exact h1.out _ (List.mem_map.2 ⟨_, List.mem_map.2 ⟨_, k1, rfl⟩, rfl⟩)
  · obtain ⟨m', k1, rfl⟩ := List.mem_map.1 hm
    exact h2.out _ (List.mem_map.2 ⟨_, List.mem_map.2 ⟨_, k1, rfl⟩, rfl⟩)⟩
theorem wq_skip {k : K} (hk : k.soft = true) (ho : ops[i]? = some o) (hw : Region.wanted o (yielded ops a.tmps) = false) (h : ∀ J : Act → Prop, (∀ a, Wp P ops Q N is A a w → J a) → J (a.put o.dst undef)) : Wp P ops Q N (.one k i :: is) A a w :=
  wq_one fun m hm => wk_skip hk ho hw fun J hJ => h J fun a ha => hJ a (ha.out m hm)
theorem wq_pure (ho : ops[i]? = some o) (hw : Region.wanted o (yielded ops a.tmps) = true) (h : ∀ J : Act → Prop, (∀ a, Wp P ops Q N is A a w → J a) → ∃ v, (∀ w', (execOp a.eval o).run P w' = .ok (.value v) w') ∧ J (a.put o.dst v)) : Wp P ops Q N (.one .pure i :: is) A a w :=
  wq_one fun m hm => wk_pure ho hw fun J hJ => h J fun a ha => hJ a (ha.out m hm)
theorem wq_load {T : TypeId} {x : Operand} {p : Addr} (ho : ops[i]? = some o) (hw : Region.wanted o (yielded ops a.tmps) = true) (hop : o.op = .load T x) (hx : a.eval x = .pointer (some p))
    (h : ∀ J : Value → Prop, (∀ v, Wp P ops Q N is A (a.put o.dst v) w → J v) → (w.cell? p).isSome = true ∧ ∃ v, (loadVar T p).run P w = .ok v w ∧ J v) : Wp P ops Q N (.one .read i :: is) A a w :=
  wq_one fun m hm => wk_load ho hw hop hx fun J hJ => h J fun v hv => hJ v (hv.out m hm)
theorem wq_ext (ho : ops[i]? = some o) (hw : Region.wanted o (yielded ops a.tmps) = true) (h : ∀ w', Below w.heap.size w w' → ∀ J : Act → World → Prop, (∀ a' w'', Below w'.heap.size w' w'' → Wp P ops Q N is A a' w'' → J a' w'') → o.wp P a w' J Q) : Wp P ops Q N (.one .ext i :: is) A a w :=
  wq_one fun m hm => wk_ext ho hw fun w' hb J hJ => h w' hb J fun a' w'' hb' hk => hJ a' w'' hb' (hk.out m hm)
theorem wq_pair {i j : Nat} {oi oj : Oper} (hoi : ops[i]? = some oi) (hoj : ops[j]? = some oj) (hwi : Region.wanted oi (yielded ops a.tmps) = true) (hwj : ∀ v, Region.wanted oj (yielded ops (a.put oi.dst v).tmps) = true) (hwj0 : Region.wanted oj (yielded ops a.tmps) = true) (hwi0 : ∀ v, Region.wanted oi (yielded ops (a.put oj.dst v).tmps) = true)
    (hc : ∀ u v, (a.put oj.dst u).put oi.dst v = (a.put oi.dst v).put oj.dst u) (Ri Rj : Value → World → Prop) (si : ∀ v W W', Ri v W → Below W.heap.size W W' → Ri v W') (sj : ∀ v W W', Rj v W → Below W.heap.size W W' → Rj v W')
    (hi : ∀ (a' : Act) W (J : Act → World → Prop), (∀ v W', Below W.heap.size W W' → Ri v W' → J (a'.put oi.dst v) W') → oi.wp P a' W J Q) (hj : ∀ (a' : Act) W (J : Act → World → Prop), (∀ v W', Below W.heap.size W W' → Rj v W' → J (a'.put oj.dst v) W') → oj.wp P a' W J Q)
    (h : ∀ v u W, Below w.heap.size w W → Ri v W → Rj u W → Wp P ops Q N is A ((a.put oi.dst v).put oj.dst u) W) : Wp P ops Q N (.two i j :: is) A a w := by
  refine wq_two (wq_ext hoi hwi fun w1 hb1 J hJ => hi _ _ _ fun v W hW hv => hJ _ _ hW (wq_ext hoj (hwj v) fun w2 hb2 J2 hJ2 => hj _ _ _ fun u W2 hW2 hu => hJ2 _ _ hW2 (h v u W2 (below_trans (below_trans hb1 hW) (below_trans hb2 hW2)) (si _ _ _ (si _ _ _ hv hb2) hW2) hu)))
    (wq_ext hoj hwj0 fun w1 hb1 J hJ => hj _ _ _ fun u W hW hu => hJ _ _ hW (wq_ext hoi (hwi0 u) fun w2 hb2 J2 hJ2 => hi _ _ _ fun v W2 hW2 hv => hJ2 _ _ hW2 ?_))
  have := h v u W2 (below_trans (below_trans hb1 hW) (below_trans hb2 hW2)) hv (sj _ _ _ (sj _ _ _ hu hb2) hW2)
  rw [← hc] at this
  exact this
theorem wq_fin (l : List Oper) (hl : (i :: []).map (ops[·]?) = l.map some) (h : ∀ w', Below w.heap.size w w' → wpList P ops Q l a w') : Wp P ops Q N [.one .fin i] A a w :=
  wq_one fun m hm => by
    rw [List.mem_singleton.1 hm]
    exact wk_fin l hl h
noncomputable def regOps (n : Nat) : Code → Option (Array Oper)
  | .region i ops _ => if i = n then some ops else none
  | .seq a b => match regOps n a with | some x => some x | none => regOps n b
  | .block _ a => regOps n a
  | .loop a => regOps n a
  | .cond _ a b => match regOps n a with | some x => some x | none => regOps n b
  | _ => none
noncomputable def opsOf (f : Func) (n : Nat) : Array Oper := (f.body.bind (regOps n)).getD #[]
end Go.SW
namespace Go.Proofs.verdigrislaw04
open Go Go.SW Go.Proofs
def list4 : List (K × Nat) := ((.read, 1) :: (.ext, 0) :: (.ext, 2) :: (.pure, 3) :: (.pure, 4) :: (.ext, 5) :: (.pure, 6) :: (.ext, 7) :: (.ext, 8) :: (.ext, 9) :: (.pure, 10) :: (.pure, 11) :: (.ext, 12) :: (.pure, 13) :: (.pure, 14) :: (.ext, 15) :: (.ext, 16) :: (.ext, 17) :: (.pure, 18) :: (.pure, 19) :: (.ext, 20) :: (.pure, 21) :: (.pure, 22) :: (.ext, 23) :: (.ext, 24) :: (.ext, 25) :: (.pure, 26) :: (.pure, 27) :: (.ext, 28) :: (.pure, 29) :: (.pure, 30) :: (.ext, 31) :: (.ext, 32) :: (.ext, 33) :: (.pure, 34) :: (.pure, 35) :: (.ext, 36) :: (.pure, 37) :: (.pure, 38) :: (.ext, 39) :: (.ext, 40) :: (.ext, 41) :: (.pure, 42) :: (.pure, 43) :: (.ext, 44) :: (.pure, 45) :: (.pure, 46) :: (.ext, 47) :: (.ext, 48) :: (.ext, 49) :: (.pure, 50) :: (.pure, 51) :: (.ext, 52) :: (.pure, 53) :: (.pure, 54) :: (.ext, 55) :: (.ext, 56) :: (.ext, 57) :: (.pure, 58) :: (.pure, 59) :: (.ext, 60) :: (.pure, 61) :: (.pure, 62) :: (.ext, 63) :: (.ext, 64) :: (.ext, 65) :: (.pure, 66) :: (.pure, 67) :: (.ext, 68) :: (.pure, 69) :: (.pure, 70) :: (.ext, 71) :: (.ext, 72) :: (.ext, 73) :: (.pure, 74) :: (.pure, 75) :: (.ext, 76) :: (.pure, 77) :: (.pure, 78) :: (.ext, 79) :: (.ext, 80) :: (.ext, 81) :: (.pure, 82) :: (.pure, 83) :: (.ext, 84) :: (.pure, 85) :: (.pure, 86) :: (.ext, 87) :: (.ext, 88) :: (.ext, 89) :: (.pure, 90) :: (.pure, 91) :: (.ext, 92) :: (.pure, 93) :: (.fin, 94) :: [])
def plan5 : List St := (.one .pure 0 :: .one .pure 1 :: .one .ext 2 :: .one .ext 3 :: .one .ext 4 :: .one .pure 5 :: .one .pure 6 :: .one .ext 7 :: .one .pure 8 :: .one .pure 9 :: .one .ext 10 :: .one .ext 11 :: .one .ext 12 :: .one .pure 13 :: .one .pure 14 :: .one .ext 15 :: .one .pure 16 :: .one .pure 17 :: .one .ext 18 :: .one .ext 19 :: .one .ext 20 :: .one .pure 21 :: .one .pure 22 :: .one .ext 23 :: .one .pure 24 :: .one .pure 25 :: .one .ext 26 :: .one .ext 27 :: .one .ext 28 :: .one .ext 29 :: .one .ext 30 :: .one .pure 31 :: .one .pure 32 :: .one .ext 33 :: .one .pure 34 :: .one .pure 35 :: .two 36 37 :: .one .ext 38 :: .one .pure 39 :: .one .pure 40 :: .one .ext 41 :: .one .pure 42 :: .one .pure 43 :: .two 44 45 :: .one .ext 46 :: .one .pure 47 :: .one .pure 48 :: .one .ext 49 :: .one .pure 50 :: .one .pure 51 :: .one .read 54 :: .one .ext 52 :: .one .ext 53 :: .one .ext 55 :: .one .ext 56 :: .one .pure 57 :: .one .pure 58 :: .one .ext 59 :: .one .pure 60 :: .one .pure 61 :: .one .ext 62 :: .one .ext 63 :: .one .ext 64 :: .one .ext 65 :: .one .ext 66 :: .one .pure 67 :: .one .pure 68 :: .one .ext 69 :: .one .pure 70 :: .one .pure 71 :: .one .ext 72 :: .one .ext 73 :: .one .ext 74 :: .one .ext 75 :: .one .ext 76 :: .one .pure 77 :: .one .pure 78 :: .one .ext 79 :: .one .pure 80 :: .one .fin 81 :: [])
theorem chk4 : check (opsOf Tryz.f7 4) list4 = true := by kernel_rfl
theorem cov5 : covered [(36, 37), (44, 45)] plan5 (opsOf Tryz.f7 5) = true := by kernel_rfl
end Go.Proofs.verdigrislaw04
