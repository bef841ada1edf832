import Derived.Test.YtphbnfjamclmjaaGreatDoorLa
namespace Go.Proofs.YtphbnfjamclmjaaGreatDoor
open Go.RowKit Go.Sort
set_option linter.unusedVariables false
set_option linter.unusedSimpArgs false

set_option maxHeartbeats 4000000 in
set_option maxRecDepth 100000 in
theorem policy_push (w : World) : Calls Tryz.prog 71 #[.agg #[.int .i64 1, .int .i64 1, .int .i64 0, .int .i64 0, .int .i64 0, .int .i64 0, .int .i64 0, .int .i64 0, .int .i64 0, .int .i64 0, .int .i64 2, .int .i64 1, .int .i64 1, .int .i64 0], .int .i64 0, .agg #[.int .i64 6, .int .i64 0, .int .i64 0, .int .u64 1, .int .u64 0, .int .u64 0, .int .i64 0]] w fun e w' => e = .returned (.nilIface) ∧ Below w.heap.size w w' := by
  go_enter Tryz.func71, Tryz.ntmps71
  go_wp2_with fail
  refine (cmay_push _).mono ?_
  rintro e w1 ⟨rfl, hb1⟩
  have cf : ∀ off, w1.cell? ⟨w.heap.size, off, none⟩ = (#[.int .i64 1, .int .i64 1, .int .i64 0, .int .i64 0, .int .i64 0, .int .i64 0, .int .i64 0, .int .i64 0, .int .i64 0, .int .i64 0, .int .i64 2, .int .i64 1, .int .i64 1, .int .i64 0] : Array Value)[off]? := cells_below hb1 (by simp only [World.size_alloc]; omega) (by repeat (first | exact cells_new _ _ _ _ (by simp) | refine cells_old _ _ _ (by simp only [World.size_alloc]; omega) ?_))
  have sf : w.heap.size < w1.heap.size := Nat.lt_of_lt_of_le (by simp only [World.size_alloc]; omega) hb1.size
  have cc : ∀ off, w1.cell? ⟨w.heap.size + 1, off, none⟩ = (#[.int .i64 6, .int .i64 0, .int .i64 0, .int .u64 1, .int .u64 0, .int .u64 0, .int .i64 0] : Array Value)[off]? := cells_below hb1 (by simp only [World.size_alloc]; omega) (by repeat (first | exact cells_new _ _ _ _ (by simp) | refine cells_old _ _ _ (by simp only [World.size_alloc]; omega) ?_))
  have sc : w.heap.size + 1 < w1.heap.size := Nat.lt_of_lt_of_le (by simp only [World.size_alloc]; omega) hb1.size
  go_wp2_with fail
  refine (level_one _).mono ?_
  rintro e w2 ⟨rfl, hb2⟩
  replace cf : ∀ off, w2.cell? ⟨w.heap.size, off, none⟩ = (#[.int .i64 1, .int .i64 1, .int .i64 0, .int .i64 0, .int .i64 0, .int .i64 0, .int .i64 0, .int .i64 0, .int .i64 0, .int .i64 0, .int .i64 2, .int .i64 1, .int .i64 1, .int .i64 0] : Array Value)[off]? := cells_below hb2 sf cf
  replace sf : w.heap.size < w2.heap.size := Nat.lt_of_lt_of_le sf hb2.size
  replace cc : ∀ off, w2.cell? ⟨w.heap.size + 1, off, none⟩ = (#[.int .i64 6, .int .i64 0, .int .i64 0, .int .u64 1, .int .u64 0, .int .u64 0, .int .i64 0] : Array Value)[off]? := cells_below hb2 sc cc
  replace sc : w.heap.size + 1 < w2.heap.size := Nat.lt_of_lt_of_le sc hb2.size
  go_wp2_with fail
  refine (writes_one _).mono ?_
  rintro e w3 ⟨rfl, hb3⟩
  replace cf : ∀ off, w3.cell? ⟨w.heap.size, off, none⟩ = (#[.int .i64 1, .int .i64 1, .int .i64 0, .int .i64 0, .int .i64 0, .int .i64 0, .int .i64 0, .int .i64 0, .int .i64 0, .int .i64 0, .int .i64 2, .int .i64 1, .int .i64 1, .int .i64 0] : Array Value)[off]? := cells_below hb3 sf cf
  replace sf : w.heap.size < w3.heap.size := Nat.lt_of_lt_of_le sf hb3.size
  replace cc : ∀ off, w3.cell? ⟨w.heap.size + 1, off, none⟩ = (#[.int .i64 6, .int .i64 0, .int .i64 0, .int .u64 1, .int .u64 0, .int .u64 0, .int .i64 0] : Array Value)[off]? := cells_below hb3 sc cc
  replace sc : w.heap.size + 1 < w3.heap.size := Nat.lt_of_lt_of_le sc hb3.size
  go_wp2
  go_ret
  exact ⟨rfl, (below_next (below_next (below_next (below_alloc (below_alloc (Below.refl _ _) _) _) hb1) hb2) hb3)⟩

set_option maxHeartbeats 4000000 in
set_option maxRecDepth 100000 in
theorem policy_pop (w : World) : Calls Tryz.prog 71 #[.agg #[.int .i64 1, .int .i64 1, .int .i64 0, .int .i64 0, .int .i64 0, .int .i64 0, .int .i64 0, .int .i64 0, .int .i64 0, .int .i64 0, .int .i64 2, .int .i64 1, .int .i64 1, .int .i64 0], .int .i64 0, .agg #[.int .i64 7, .int .i64 0, .int .i64 0, .int .u64 0, .int .u64 0, .int .u64 0, .int .i64 0]] w fun e w' => e = .returned (.nilIface) ∧ Below w.heap.size w w' := by
  go_enter Tryz.func71, Tryz.ntmps71
  go_wp2_with fail
  refine (cmay_pop _).mono ?_
  rintro e w1 ⟨rfl, hb1⟩
  have cf : ∀ off, w1.cell? ⟨w.heap.size, off, none⟩ = (#[.int .i64 1, .int .i64 1, .int .i64 0, .int .i64 0, .int .i64 0, .int .i64 0, .int .i64 0, .int .i64 0, .int .i64 0, .int .i64 0, .int .i64 2, .int .i64 1, .int .i64 1, .int .i64 0] : Array Value)[off]? := cells_below hb1 (by simp only [World.size_alloc]; omega) (by repeat (first | exact cells_new _ _ _ _ (by simp) | refine cells_old _ _ _ (by simp only [World.size_alloc]; omega) ?_))
  have sf : w.heap.size < w1.heap.size := Nat.lt_of_lt_of_le (by simp only [World.size_alloc]; omega) hb1.size
  have cc : ∀ off, w1.cell? ⟨w.heap.size + 1, off, none⟩ = (#[.int .i64 7, .int .i64 0, .int .i64 0, .int .u64 0, .int .u64 0, .int .u64 0, .int .i64 0] : Array Value)[off]? := cells_below hb1 (by simp only [World.size_alloc]; omega) (by repeat (first | exact cells_new _ _ _ _ (by simp) | refine cells_old _ _ _ (by simp only [World.size_alloc]; omega) ?_))
  have sc : w.heap.size + 1 < w1.heap.size := Nat.lt_of_lt_of_le (by simp only [World.size_alloc]; omega) hb1.size
  go_wp2_with fail
  refine (level_one _).mono ?_
  rintro e w2 ⟨rfl, hb2⟩
  replace cf : ∀ off, w2.cell? ⟨w.heap.size, off, none⟩ = (#[.int .i64 1, .int .i64 1, .int .i64 0, .int .i64 0, .int .i64 0, .int .i64 0, .int .i64 0, .int .i64 0, .int .i64 0, .int .i64 0, .int .i64 2, .int .i64 1, .int .i64 1, .int .i64 0] : Array Value)[off]? := cells_below hb2 sf cf
  replace sf : w.heap.size < w2.heap.size := Nat.lt_of_lt_of_le sf hb2.size
  replace cc : ∀ off, w2.cell? ⟨w.heap.size + 1, off, none⟩ = (#[.int .i64 7, .int .i64 0, .int .i64 0, .int .u64 0, .int .u64 0, .int .u64 0, .int .i64 0] : Array Value)[off]? := cells_below hb2 sc cc
  replace sc : w.heap.size + 1 < w2.heap.size := Nat.lt_of_lt_of_le sc hb2.size
  go_wp2_with fail
  refine (writes_one _).mono ?_
  rintro e w3 ⟨rfl, hb3⟩
  replace cf : ∀ off, w3.cell? ⟨w.heap.size, off, none⟩ = (#[.int .i64 1, .int .i64 1, .int .i64 0, .int .i64 0, .int .i64 0, .int .i64 0, .int .i64 0, .int .i64 0, .int .i64 0, .int .i64 0, .int .i64 2, .int .i64 1, .int .i64 1, .int .i64 0] : Array Value)[off]? := cells_below hb3 sf cf
  replace sf : w.heap.size < w3.heap.size := Nat.lt_of_lt_of_le sf hb3.size
  replace cc : ∀ off, w3.cell? ⟨w.heap.size + 1, off, none⟩ = (#[.int .i64 7, .int .i64 0, .int .i64 0, .int .u64 0, .int .u64 0, .int .u64 0, .int .i64 0] : Array Value)[off]? := cells_below hb3 sc cc
  replace sc : w.heap.size + 1 < w3.heap.size := Nat.lt_of_lt_of_le sc hb3.size
  go_wp2
  go_ret
  exact ⟨rfl, (below_next (below_next (below_next (below_alloc (below_alloc (Below.refl _ _) _) _) hb1) hb2) hb3)⟩

set_option maxHeartbeats 4000000 in
set_option maxRecDepth 100000 in
theorem refused_push (qv : Value) (w : World) : Calls Tryz.prog 44 #[.agg #[.int .i64 1, .int .i64 1, .int .i64 0, .int .i64 0, .int .i64 0, .int .i64 0, .int .i64 0, .int .i64 0, .int .i64 0, .int .i64 0, .int .i64 2, .int .i64 1, .int .i64 1, .int .i64 0, .int .i64 0, .slice none 0 0, .int .i64 0, .bool false, .int .i64 0, .bool false, .int .i64 0, .bool false, .int .i64 0, .bool false, .int .i64 0, .int .u64 0, .int .i64 0, .bool false, .int .i64 0, .bool false, .int .i64 0, .bool false, .int .i64 0, .bool false, .int .i64 0, .int .u64 0, .int .i64 0, .int .u64 0, .int .u64 0, .int .i64 0, .int .u64 0, .int .u64 0, .int .i64 0, .int .u64 0, .int .u64 0, .int .i64 0, .int .u64 0, .int .u64 0, .int .i64 0, .int .u64 0, .int .u64 0, .int .i64 0, .int .u64 0, .int .u64 0, .int .i64 0, .int .u64 0, .int .u64 0, .int .i64 0, .int .u64 0, .int .u64 0, qv, .slice none 0 0, .slice none 0 0], .int .i64 0, .agg #[.int .i64 6, .int .i64 0, .int .i64 0, .int .u64 1, .int .u64 0, .int .u64 0, .int .i64 0]] w fun e w' => e = .returned (.int .i64 0) ∧ Below w.heap.size w w' := by
  go_enter Tryz.func44, Tryz.ntmps44
  go_wp2_with fail
  refine (policy_push _).mono ?_
  rintro e w1 ⟨rfl, hb1⟩
  go_wp2
  go_ret
  exact ⟨rfl, below_alloc (below_next (below_alloc (below_alloc (Below.refl _ _) _) _) hb1) _⟩

set_option maxHeartbeats 4000000 in
set_option maxRecDepth 100000 in
theorem refused_pop (qv : Value) (w : World) : Calls Tryz.prog 44 #[.agg #[.int .i64 1, .int .i64 1, .int .i64 0, .int .i64 0, .int .i64 0, .int .i64 0, .int .i64 0, .int .i64 0, .int .i64 0, .int .i64 0, .int .i64 2, .int .i64 1, .int .i64 1, .int .i64 0, .int .i64 0, .slice none 0 0, .int .i64 0, .bool false, .int .i64 0, .bool false, .int .i64 0, .bool false, .int .i64 0, .bool false, .int .i64 0, .int .u64 0, .int .i64 0, .bool false, .int .i64 0, .bool false, .int .i64 0, .bool false, .int .i64 0, .bool false, .int .i64 0, .int .u64 0, .int .i64 0, .int .u64 0, .int .u64 0, .int .i64 0, .int .u64 0, .int .u64 0, .int .i64 0, .int .u64 0, .int .u64 0, .int .i64 0, .int .u64 0, .int .u64 0, .int .i64 0, .int .u64 0, .int .u64 0, .int .i64 0, .int .u64 0, .int .u64 0, .int .i64 0, .int .u64 0, .int .u64 0, .int .i64 0, .int .u64 0, .int .u64 0, qv, .slice none 0 0, .slice none 0 0], .int .i64 0, .agg #[.int .i64 7, .int .i64 0, .int .i64 0, .int .u64 0, .int .u64 0, .int .u64 0, .int .i64 0]] w fun e w' => e = .returned (.int .i64 0) ∧ Below w.heap.size w w' := by
  go_enter Tryz.func44, Tryz.ntmps44
  go_wp2_with fail
  refine (policy_pop _).mono ?_
  rintro e w1 ⟨rfl, hb1⟩
  go_wp2
  go_ret
  exact ⟨rfl, below_alloc (below_next (below_alloc (below_alloc (Below.refl _ _) _) _) hb1) _⟩

end Go.Proofs.YtphbnfjamclmjaaGreatDoor
