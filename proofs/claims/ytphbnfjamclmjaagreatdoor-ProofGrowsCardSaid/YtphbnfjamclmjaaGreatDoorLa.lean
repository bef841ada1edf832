import Derived.Test.YtphbnfjamclmjaaGreatDoorProg
import Derived.WalkKit
import Derived.WalkSpells
import Derived.WalkLawsBesides
import Derived.Deep.QuietTactic
import Derived.BigQuiet
import Derived.Lib.QuietBelow
import Derived.Outline
namespace Go.Proofs.YtphbnfjamclmjaaGreatDoor
open Go.RowKit Go.Sort
set_option linter.unusedVariables false
set_option linter.unusedSimpArgs false

theorem below_of_regrown {w w' : World} (h : ∃ p : Regrown, w' = grow (redrawn w p.d) p.os) : Below w.heap.size w w' := by
  obtain ⟨p, rfl⟩ := h
  exact below_regrown w p.d p.os
theorem quiet_same {P : Program} {f : FuncId} {args : Array Value} {w : World} {d : Nat} {os : Array Obj} {v : Value}
    (h : Calls P f args (grow (redrawn w d) os) fun e w' => e = .returned v ∧ w' = grow (redrawn w d) os) : Calls P f args (grow (redrawn w d) os) fun e w'' => e = .returned v ∧ ∃ p : Regrown, w'' = grow (redrawn w p.d) p.os :=
  h.mono fun _ _ ⟨he, hw⟩ => ⟨he, ⟨d, os⟩, hw⟩

set_option maxHeartbeats 4000000 in
set_option maxRecDepth 100000 in
theorem cleared_one (w : World) : Calls Tryz.prog 118 #[.agg #[.int .i64 1, .int .i64 1, .int .i64 0, .int .i64 0, .int .i64 0, .int .i64 0, .int .i64 0, .int .i64 0, .int .i64 0, .int .i64 0, .int .i64 2, .int .i64 1, .int .i64 1, .int .i64 0]] w fun e w' => e = .returned (.agg #[.int .i64 0, .int .i64 0, .int .i64 0, .int .i64 0, .int .i64 0, .int .i64 0, .int .i64 0, .int .i64 0]) ∧ Below w.heap.size w w' := by
  go_enter Tryz.func118, Tryz.ntmps118
  go_wp2
  refine wp_loop_rounds 8 ?_
  repeat (rw [rounds_succ]; go_wp2)
  exact bodyPost_ret (v := .agg #[.int .i64 0, .int .i64 0, .int .i64 0, .int .i64 0, .int .i64 0, .int .i64 0, .int .i64 0, .int .i64 0]) (by simp [results, Tryz.results118, go_sem]) rfl ⟨rfl, (((Below.refl _ _).alloc (Nat.le_refl _) _).alloc (by simp) _).alloc (by simp; omega) _⟩

set_option maxHeartbeats 4000000 in
set_option maxRecDepth 100000 in
theorem in78 (n lo hi : Int) (w : World) : Calls Tryz.prog 78 #[.int .i64 n, .int .i64 lo, .int .i64 hi] w fun e w' => e = .returned (.bool (decide (lo ≤ n) && decide (n ≤ hi))) ∧ w' = w := by
  by_cases h1 : lo ≤ n
  · go_enter Tryz.func78, Tryz.ntmps78
    go_wp2
    go_ret
    exact ⟨by simp [h1], rfl⟩
  · go_enter Tryz.func78, Tryz.ntmps78
    go_wp2
    go_ret
    exact ⟨by simp; omega, rfl⟩

set_option maxHeartbeats 4000000 in
set_option maxRecDepth 100000 in
theorem may_one (w : World) : Calls Tryz.prog 77 #[.agg #[.int .i64 1, .int .i64 1, .int .i64 0, .int .i64 0, .int .i64 0, .int .i64 0, .int .i64 0, .int .i64 0, .int .i64 0, .int .i64 0, .int .i64 2, .int .i64 1, .int .i64 1, .int .i64 0]] w fun e w' => e = .returned (.bool true) ∧ Below w.heap.size w w' := by
  have k0 : ∀ d os, (grow (redrawn (w.alloc (.cells #[.int .i64 1, .int .i64 1, .int .i64 0, .int .i64 0, .int .i64 0, .int .i64 0, .int .i64 0, .int .i64 0, .int .i64 0, .int .i64 0, .int .i64 2, .int .i64 1, .int .i64 1, .int .i64 0] 42)) d) os).cell? ⟨w.heap.size, 0, none⟩ = some (.int .i64 1) := cell_regrown (by simp)
  have k1 : ∀ d os, (grow (redrawn (w.alloc (.cells #[.int .i64 1, .int .i64 1, .int .i64 0, .int .i64 0, .int .i64 0, .int .i64 0, .int .i64 0, .int .i64 0, .int .i64 0, .int .i64 0, .int .i64 2, .int .i64 1, .int .i64 1, .int .i64 0] 42)) d) os).cell? ⟨w.heap.size, 1, none⟩ = some (.int .i64 1) := cell_regrown (by simp)
  have k2 : ∀ d os, (grow (redrawn (w.alloc (.cells #[.int .i64 1, .int .i64 1, .int .i64 0, .int .i64 0, .int .i64 0, .int .i64 0, .int .i64 0, .int .i64 0, .int .i64 0, .int .i64 0, .int .i64 2, .int .i64 1, .int .i64 1, .int .i64 0] 42)) d) os).cell? ⟨w.heap.size, 2, none⟩ = some (.int .i64 0) := cell_regrown (by simp)
  have k3 : ∀ d os, (grow (redrawn (w.alloc (.cells #[.int .i64 1, .int .i64 1, .int .i64 0, .int .i64 0, .int .i64 0, .int .i64 0, .int .i64 0, .int .i64 0, .int .i64 0, .int .i64 0, .int .i64 2, .int .i64 1, .int .i64 1, .int .i64 0] 42)) d) os).cell? ⟨w.heap.size, 3, none⟩ = some (.int .i64 0) := cell_regrown (by simp)
  have k4 : ∀ d os, (grow (redrawn (w.alloc (.cells #[.int .i64 1, .int .i64 1, .int .i64 0, .int .i64 0, .int .i64 0, .int .i64 0, .int .i64 0, .int .i64 0, .int .i64 0, .int .i64 0, .int .i64 2, .int .i64 1, .int .i64 1, .int .i64 0] 42)) d) os).cell? ⟨w.heap.size, 4, none⟩ = some (.int .i64 0) := cell_regrown (by simp)
  have k5 : ∀ d os, (grow (redrawn (w.alloc (.cells #[.int .i64 1, .int .i64 1, .int .i64 0, .int .i64 0, .int .i64 0, .int .i64 0, .int .i64 0, .int .i64 0, .int .i64 0, .int .i64 0, .int .i64 2, .int .i64 1, .int .i64 1, .int .i64 0] 42)) d) os).cell? ⟨w.heap.size, 5, none⟩ = some (.int .i64 0) := cell_regrown (by simp)
  have k6 : ∀ d os, (grow (redrawn (w.alloc (.cells #[.int .i64 1, .int .i64 1, .int .i64 0, .int .i64 0, .int .i64 0, .int .i64 0, .int .i64 0, .int .i64 0, .int .i64 0, .int .i64 0, .int .i64 2, .int .i64 1, .int .i64 1, .int .i64 0] 42)) d) os).cell? ⟨w.heap.size, 6, none⟩ = some (.int .i64 0) := cell_regrown (by simp)
  have k7 : ∀ d os, (grow (redrawn (w.alloc (.cells #[.int .i64 1, .int .i64 1, .int .i64 0, .int .i64 0, .int .i64 0, .int .i64 0, .int .i64 0, .int .i64 0, .int .i64 0, .int .i64 0, .int .i64 2, .int .i64 1, .int .i64 1, .int .i64 0] 42)) d) os).cell? ⟨w.heap.size, 7, none⟩ = some (.int .i64 0) := cell_regrown (by simp)
  have k8 : ∀ d os, (grow (redrawn (w.alloc (.cells #[.int .i64 1, .int .i64 1, .int .i64 0, .int .i64 0, .int .i64 0, .int .i64 0, .int .i64 0, .int .i64 0, .int .i64 0, .int .i64 0, .int .i64 2, .int .i64 1, .int .i64 1, .int .i64 0] 42)) d) os).cell? ⟨w.heap.size, 8, none⟩ = some (.int .i64 0) := cell_regrown (by simp)
  have k9 : ∀ d os, (grow (redrawn (w.alloc (.cells #[.int .i64 1, .int .i64 1, .int .i64 0, .int .i64 0, .int .i64 0, .int .i64 0, .int .i64 0, .int .i64 0, .int .i64 0, .int .i64 0, .int .i64 2, .int .i64 1, .int .i64 1, .int .i64 0] 42)) d) os).cell? ⟨w.heap.size, 9, none⟩ = some (.int .i64 0) := cell_regrown (by simp)
  have k10 : ∀ d os, (grow (redrawn (w.alloc (.cells #[.int .i64 1, .int .i64 1, .int .i64 0, .int .i64 0, .int .i64 0, .int .i64 0, .int .i64 0, .int .i64 0, .int .i64 0, .int .i64 0, .int .i64 2, .int .i64 1, .int .i64 1, .int .i64 0] 42)) d) os).cell? ⟨w.heap.size, 10, none⟩ = some (.int .i64 2) := cell_regrown (by simp)
  have k11 : ∀ d os, (grow (redrawn (w.alloc (.cells #[.int .i64 1, .int .i64 1, .int .i64 0, .int .i64 0, .int .i64 0, .int .i64 0, .int .i64 0, .int .i64 0, .int .i64 0, .int .i64 0, .int .i64 2, .int .i64 1, .int .i64 1, .int .i64 0] 42)) d) os).cell? ⟨w.heap.size, 11, none⟩ = some (.int .i64 1) := cell_regrown (by simp)
  have k12 : ∀ d os, (grow (redrawn (w.alloc (.cells #[.int .i64 1, .int .i64 1, .int .i64 0, .int .i64 0, .int .i64 0, .int .i64 0, .int .i64 0, .int .i64 0, .int .i64 0, .int .i64 0, .int .i64 2, .int .i64 1, .int .i64 1, .int .i64 0] 42)) d) os).cell? ⟨w.heap.size, 12, none⟩ = some (.int .i64 1) := cell_regrown (by simp)
  have k13 : ∀ d os, (grow (redrawn (w.alloc (.cells #[.int .i64 1, .int .i64 1, .int .i64 0, .int .i64 0, .int .i64 0, .int .i64 0, .int .i64 0, .int .i64 0, .int .i64 0, .int .i64 0, .int .i64 2, .int .i64 1, .int .i64 1, .int .i64 0] 42)) d) os).cell? ⟨w.heap.size, 13, none⟩ = some (.int .i64 0) := cell_regrown (by simp)
  have ix0 : ∀ W, (Instr.index 40 (.agg #[.int .i64 0, .int .i64 0, .int .i64 0, .int .i64 0, .int .i64 0, .int .i64 0, .int .i64 0, .int .i64 0]) (.int .i64 0)).run Tryz.prog W = .ok (.int .i64 0) W := fun _ => by kernel_rfl
  have ix1 : ∀ W, (Instr.index 40 (.agg #[.int .i64 0, .int .i64 0, .int .i64 0, .int .i64 0, .int .i64 0, .int .i64 0, .int .i64 0, .int .i64 0]) (.int .i64 1)).run Tryz.prog W = .ok (.int .i64 0) W := fun _ => by kernel_rfl
  have ix2 : ∀ W, (Instr.index 40 (.agg #[.int .i64 0, .int .i64 0, .int .i64 0, .int .i64 0, .int .i64 0, .int .i64 0, .int .i64 0, .int .i64 0]) (.int .i64 2)).run Tryz.prog W = .ok (.int .i64 0) W := fun _ => by kernel_rfl
  have ix3 : ∀ W, (Instr.index 40 (.agg #[.int .i64 0, .int .i64 0, .int .i64 0, .int .i64 0, .int .i64 0, .int .i64 0, .int .i64 0, .int .i64 0]) (.int .i64 3)).run Tryz.prog W = .ok (.int .i64 0) W := fun _ => by kernel_rfl
  have ix4 : ∀ W, (Instr.index 40 (.agg #[.int .i64 0, .int .i64 0, .int .i64 0, .int .i64 0, .int .i64 0, .int .i64 0, .int .i64 0, .int .i64 0]) (.int .i64 4)).run Tryz.prog W = .ok (.int .i64 0) W := fun _ => by kernel_rfl
  have ix5 : ∀ W, (Instr.index 40 (.agg #[.int .i64 0, .int .i64 0, .int .i64 0, .int .i64 0, .int .i64 0, .int .i64 0, .int .i64 0, .int .i64 0]) (.int .i64 5)).run Tryz.prog W = .ok (.int .i64 0) W := fun _ => by kernel_rfl
  have ix6 : ∀ W, (Instr.index 40 (.agg #[.int .i64 0, .int .i64 0, .int .i64 0, .int .i64 0, .int .i64 0, .int .i64 0, .int .i64 0, .int .i64 0]) (.int .i64 6)).run Tryz.prog W = .ok (.int .i64 0) W := fun _ => by kernel_rfl
  have ix7 : ∀ W, (Instr.index 40 (.agg #[.int .i64 0, .int .i64 0, .int .i64 0, .int .i64 0, .int .i64 0, .int .i64 0, .int .i64 0, .int .i64 0]) (.int .i64 7)).run Tryz.prog W = .ok (.int .i64 0) W := fun _ => by kernel_rfl
  have hne : ∀ W, (binOp .neq 40 (.agg #[.int .i64 0, .int .i64 0, .int .i64 0, .int .i64 0, .int .i64 0, .int .i64 0, .int .i64 0, .int .i64 0]) (.agg #[.int .i64 0, .int .i64 0, .int .i64 0, .int .i64 0, .int .i64 0, .int .i64 0, .int .i64 0, .int .i64 0])).run Tryz.prog W = .ok (.bool false) W := fun _ => by kernel_rfl
  go_enter Tryz.func77, Tryz.ntmps77
  go_wp2
  refine wp_region_quiet_below (by kernel_rfl) (by kernel_rfl) ?_
  repeat (quiet_step (first | exact Calls.regrown_of (cleared_one _) | exact quiet_same (in78 _ _ _ _)))
  refine wpQuiet_nil ?_
  intro w1 hw1
  replace hw1 := below_of_regrown hw1
  have q0 : w1.cell? ⟨w.heap.size, 0, none⟩ = some (.int .i64 1) := by rw [hw1.cell (by simp)]; simp
  have q1 : w1.cell? ⟨w.heap.size, 1, none⟩ = some (.int .i64 1) := by rw [hw1.cell (by simp)]; simp
  have q2 : w1.cell? ⟨w.heap.size, 2, none⟩ = some (.int .i64 0) := by rw [hw1.cell (by simp)]; simp
  have q3 : w1.cell? ⟨w.heap.size, 3, none⟩ = some (.int .i64 0) := by rw [hw1.cell (by simp)]; simp
  have q4 : w1.cell? ⟨w.heap.size, 4, none⟩ = some (.int .i64 0) := by rw [hw1.cell (by simp)]; simp
  have q5 : w1.cell? ⟨w.heap.size, 5, none⟩ = some (.int .i64 0) := by rw [hw1.cell (by simp)]; simp
  have q6 : w1.cell? ⟨w.heap.size, 6, none⟩ = some (.int .i64 0) := by rw [hw1.cell (by simp)]; simp
  have q7 : w1.cell? ⟨w.heap.size, 7, none⟩ = some (.int .i64 0) := by rw [hw1.cell (by simp)]; simp
  have q8 : w1.cell? ⟨w.heap.size, 8, none⟩ = some (.int .i64 0) := by rw [hw1.cell (by simp)]; simp
  have q9 : w1.cell? ⟨w.heap.size, 9, none⟩ = some (.int .i64 0) := by rw [hw1.cell (by simp)]; simp
  have q10 : w1.cell? ⟨w.heap.size, 10, none⟩ = some (.int .i64 2) := by rw [hw1.cell (by simp)]; simp
  have q11 : w1.cell? ⟨w.heap.size, 11, none⟩ = some (.int .i64 1) := by rw [hw1.cell (by simp)]; simp
  have q12 : w1.cell? ⟨w.heap.size, 12, none⟩ = some (.int .i64 1) := by rw [hw1.cell (by simp)]; simp
  have q13 : w1.cell? ⟨w.heap.size, 13, none⟩ = some (.int .i64 0) := by rw [hw1.cell (by simp)]; simp
  have qs := hw1.size
  simp only [World.size_alloc] at qs
  clear hne k0 k1 k2 k3 k4 k5 k6 k7 k8 k9 k10 k11 k12 k13
  go_wp2
  refine wp_loop_rounds 9 ?_
  repeat (rw [rounds_succ]; go_wp2)
  go_ret
  exact ⟨rfl, ((Below.refl _ _).alloc (Nat.le_refl _) _).trans (hw1.mono (by simp))⟩

theorem cells_below {B : Nat} {w w' : World} (h : Below B w w') {b : Nat} {cs : Array Value} (hb : b < B) (hc : ∀ off, w.cell? ⟨b, off, none⟩ = cs[off]?) : ∀ off, w'.cell? ⟨b, off, none⟩ = cs[off]? :=
  fun off => (h.cell (p := ⟨b, off, none⟩) hb).trans (hc off)
theorem cells_new (w : World) (cs : Array Value) (t b : Nat) (hb : b = w.heap.size) : ∀ off, (w.alloc (.cells cs t)).cell? ⟨b, off, none⟩ = cs[off]? := by
  subst hb
  intro off
  have e : (w.alloc (.cells cs t)).heap[w.heap.size]? = some (.cells cs t) := by show (w.heap.push _)[w.heap.size]? = _; simp
  simp only [World.cell?, e]
  rfl
theorem cells_old (w : World) (o : Obj) (b : Nat) {cs : Array Value} (hb : b < w.heap.size) (h : ∀ off, w.cell? ⟨b, off, none⟩ = cs[off]?) : ∀ off, (w.alloc o).cell? ⟨b, off, none⟩ = cs[off]? := by
  intro off
  rw [World.cell?_alloc_lt _ _ ⟨b, off, none⟩ hb]; exact h off
theorem frozen_new (w : World) (cs : Array Value) (t b : Nat) (hb : b = w.heap.size) : ∀ off, (w.alloc (.cells cs t)).frozen? ⟨b, off, none⟩ = false := by
  subst hb
  intro off
  have e : (w.alloc (.cells cs t)).heap[w.heap.size]? = some (.cells cs t) := by show (w.heap.push _)[w.heap.size]? = _; simp
  simp only [World.frozen?, e]
  simp
theorem frozen_old (w : World) (o : Obj) (b : Nat) (hb : b < w.heap.size) (h : ∀ off, w.frozen? ⟨b, off, none⟩ = false) : ∀ off, (w.alloc o).frozen? ⟨b, off, none⟩ = false := by
  intro off
  rw [World.frozen?_alloc_old _ _ ⟨b, off, none⟩ (Nat.ne_of_lt hb)]; exact h off
theorem blk_new (w : World) (cs : Array Value) (t b : Nat) (hb : b = w.heap.size) : (w.alloc (.cells cs t)).heap[b]? = some (.cells cs t) := by
  subst hb; show (w.heap.push _)[w.heap.size]? = _; simp
theorem blk_old (w : World) (o : Obj) (b : Nat) {x : Option Obj} (hb : b < w.heap.size) (h : w.heap[b]? = x) : (w.alloc o).heap[b]? = x := (Below.heap_alloc w o b hb).trans h
theorem blk_below {B : Nat} {w w' : World} (h : Below B w w') {b : Nat} {x : Option Obj} (hb : b < B) (hx : w.heap[b]? = x) : w'.heap[b]? = x := (h.block b hb).trans hx
theorem blk_far (w : World) (b c k : Nat) (v : Value) {x : Option Obj} (hbc : b ≠ c) (h : w.heap[b]? = x) : (w.setCell ⟨c, k, none⟩ v).heap[b]? = x := (Below.heap_setCell w ⟨c, k, none⟩ v b hbc).trans h
theorem blk_set (w : World) (b k : Nat) (v : Value) {cs : Array Value} {t : Nat} (h : w.heap[b]? = some (.cells cs t)) : (w.setCell ⟨b, k, none⟩ v).heap[b]? = some (.cells (cs.setIfInBounds k v) t) := by
  simp [World.setCell, Array.getElem?_modify, h]
theorem cell_blk {w : World} {b : Nat} {cs : Array Value} {t : Nat} (h : w.heap[b]? = some (.cells cs t)) : ∀ off, w.cell? ⟨b, off, none⟩ = cs[off]? := fun off => by simp only [World.cell?, h]; rfl
theorem frz_blk {w : World} {b : Nat} {cs : Array Value} {t : Nat} (h : w.heap[b]? = some (.cells cs t)) : ∀ off, w.frozen? ⟨b, off, none⟩ = false := fun off => by simp [World.frozen?, h]
theorem lt_blk {w : World} {b : Nat} {x : Obj} (h : w.heap[b]? = some x) : b < w.heap.size := by
  rcases Nat.lt_or_ge b w.heap.size with h' | h'
  · exact h'
  · rw [Array.getElem?_eq_none h'] at h; cases h
theorem cells_far (w : World) (b c k : Nat) (v : Value) (hbc : c ≠ b) {cs : Array Value} (h : ∀ off, w.cell? ⟨b, off, none⟩ = cs[off]?) : ∀ off, (w.setCell ⟨c, k, none⟩ v).cell? ⟨b, off, none⟩ = cs[off]? := by
  intro off
  rw [World.cell?_of_block (Below.heap_setCell w ⟨c, k, none⟩ v b (Ne.symm hbc))]; exact h off
theorem frozen_set (w : World) (b c k : Nat) (v : Value) (h : ∀ off, w.frozen? ⟨b, off, none⟩ = false) : ∀ off, (w.setCell ⟨c, k, none⟩ v).frozen? ⟨b, off, none⟩ = false := by
  intro off; rw [World.frozen?_setCell]; exact h off
theorem frozen_below {B : Nat} {w w' : World} (h : Below B w w') {b : Nat} (hb : b < B) (hc : ∀ off, w.frozen? ⟨b, off, none⟩ = false) : ∀ off, w'.frozen? ⟨b, off, none⟩ = false :=
  fun off => (h.frozen (p := ⟨b, off, none⟩) hb).trans (hc off)

theorem below_next {a b c : World} (h : Below a.heap.size a b) (k : Below b.heap.size b c) : Below a.heap.size a c := h.trans (k.mono h.size)
theorem below_alloc {a b : World} (h : Below a.heap.size a b) (o : Obj) : Below a.heap.size a (b.alloc o) := h.alloc h.size o

set_option maxHeartbeats 4000000 in
set_option maxRecDepth 100000 in
theorem level_one (w : World) : Calls Tryz.prog 46 #[.agg #[.int .i64 1, .int .i64 1, .int .i64 0, .int .i64 0, .int .i64 0, .int .i64 0, .int .i64 0, .int .i64 0, .int .i64 0, .int .i64 0, .int .i64 2, .int .i64 1, .int .i64 1, .int .i64 0], .int .i64 0] w fun e w' => e = .returned (.int .i64 0) ∧ Below w.heap.size w w' := by
  go_enter Tryz.func46, Tryz.ntmps46
  go_wp2_with fail
  refine (may_one _).mono ?_
  rintro e w1 ⟨rfl, hb1⟩
  have cf : ∀ off, w1.cell? ⟨w.heap.size, off, none⟩ = (#[.int .i64 1, .int .i64 1, .int .i64 0, .int .i64 0, .int .i64 0, .int .i64 0, .int .i64 0, .int .i64 0, .int .i64 0, .int .i64 0, .int .i64 2, .int .i64 1, .int .i64 1, .int .i64 0] : Array Value)[off]? := cells_below hb1 (by simp only [World.size_alloc]; omega) (by repeat (first | exact cells_new _ _ _ _ (by simp) | refine cells_old _ _ _ (by simp only [World.size_alloc]; omega) ?_))
  have sf : w.heap.size < w1.heap.size := Nat.lt_of_lt_of_le (by simp only [World.size_alloc]; omega) hb1.size
  go_wp2
  go_ret
  exact ⟨rfl, (below_next (below_alloc (Below.refl _ _) _) hb1)⟩

set_option maxHeartbeats 4000000 in
set_option maxRecDepth 100000 in
theorem reads_one (w : World) : Calls Tryz.prog 103 #[.agg #[.int .i64 1, .int .i64 1, .int .i64 0, .int .i64 0, .int .i64 0, .int .i64 0, .int .i64 0, .int .i64 0, .int .i64 0, .int .i64 0, .int .i64 2, .int .i64 1, .int .i64 1, .int .i64 0], .int .i64 0, .int .i64 0] w fun e w' => e = .returned (.bool true) ∧ Below w.heap.size w w' := by
  go_enter Tryz.func103, Tryz.ntmps103
  go_wp2_with fail
  refine (level_one _).mono ?_
  rintro e w1 ⟨rfl, hb1⟩
  go_wp2
  go_ret
  exact ⟨rfl, (below_next (below_alloc (Below.refl _ _) _) hb1)⟩

set_option maxHeartbeats 4000000 in
set_option maxRecDepth 100000 in
theorem writes_one (w : World) : Calls Tryz.prog 101 #[.agg #[.int .i64 1, .int .i64 1, .int .i64 0, .int .i64 0, .int .i64 0, .int .i64 0, .int .i64 0, .int .i64 0, .int .i64 0, .int .i64 0, .int .i64 2, .int .i64 1, .int .i64 1, .int .i64 0], .int .i64 0, .int .i64 0] w fun e w' => e = .returned (.bool true) ∧ Below w.heap.size w w' := by
  go_enter Tryz.func101, Tryz.ntmps101
  go_wp2_with fail
  refine (reads_one _).mono ?_
  rintro e w1 ⟨rfl, hb1⟩
  have cf : ∀ off, w1.cell? ⟨w.heap.size, off, none⟩ = (#[.int .i64 1, .int .i64 1, .int .i64 0, .int .i64 0, .int .i64 0, .int .i64 0, .int .i64 0, .int .i64 0, .int .i64 0, .int .i64 0, .int .i64 2, .int .i64 1, .int .i64 1, .int .i64 0] : Array Value)[off]? := cells_below hb1 (by simp only [World.size_alloc]; omega) (by repeat (first | exact cells_new _ _ _ _ (by simp) | refine cells_old _ _ _ (by simp only [World.size_alloc]; omega) ?_))
  have sf : w.heap.size < w1.heap.size := Nat.lt_of_lt_of_le (by simp only [World.size_alloc]; omega) hb1.size
  go_wp2
  go_ret
  exact ⟨rfl, (below_next (below_alloc (Below.refl _ _) _) hb1)⟩

set_option maxHeartbeats 4000000 in
set_option maxRecDepth 100000 in
theorem cmay_push (w : World) : Calls Tryz.prog 80 #[.agg #[.int .i64 6, .int .i64 0, .int .i64 0, .int .u64 1, .int .u64 0, .int .u64 0, .int .i64 0]] w fun e w' => e = .returned (.bool true) ∧ Below w.heap.size w w' := by
  go_enter Tryz.func80, Tryz.ntmps80
  go_wp2
  go_ret
  exact ⟨rfl, (below_alloc (Below.refl _ _) _)⟩

set_option maxHeartbeats 4000000 in
set_option maxRecDepth 100000 in
theorem cmay_pop (w : World) : Calls Tryz.prog 80 #[.agg #[.int .i64 7, .int .i64 0, .int .i64 0, .int .u64 0, .int .u64 0, .int .u64 0, .int .i64 0]] w fun e w' => e = .returned (.bool true) ∧ Below w.heap.size w w' := by
  go_enter Tryz.func80, Tryz.ntmps80
  go_wp2
  go_ret
  exact ⟨rfl, (below_alloc (Below.refl _ _) _)⟩

end Go.Proofs.YtphbnfjamclmjaaGreatDoor
