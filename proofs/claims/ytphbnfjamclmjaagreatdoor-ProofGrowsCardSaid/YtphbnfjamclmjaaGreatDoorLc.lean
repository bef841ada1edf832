import Derived.Test.YtphbnfjamclmjaaGreatDoorLb
namespace Go.Proofs.YtphbnfjamclmjaaGreatDoor
open Go.RowKit Go.Sort
set_option linter.unusedVariables false
set_option linter.unusedSimpArgs false

set_option maxHeartbeats 4000000 in
set_option maxRecDepth 100000 in
theorem told_push (w : World) : Calls Tryz.prog 81 #[.agg #[.int .i64 6, .int .i64 0, .int .i64 0, .int .u64 1, .int .u64 0, .int .u64 0, .int .i64 0], .agg #[.int .i64 0, .int .u64 0, .int .u64 0, .int .u64 0, .int .i64 0, .int .i64 0]] w fun e w' => e = .returned (.agg #[.int .i64 0, .int .u64 0, .int .u64 0, .int .u64 0, .int .i64 0, .int .i64 0]) ∧ Below w.heap.size w w' := by
  go_enter Tryz.func81, Tryz.ntmps81
  go_wp2
  exact bodyPost_ret (v := .agg #[.int .i64 0, .int .u64 0, .int .u64 0, .int .u64 0, .int .i64 0, .int .i64 0]) (by simp [results, Tryz.results81, go_sem]) rfl ⟨rfl, (below_alloc (below_alloc (below_alloc (below_alloc (Below.refl _ _) _) _) _) _)⟩

set_option maxHeartbeats 4000000 in
set_option maxRecDepth 100000 in
theorem told_pop (w : World) : Calls Tryz.prog 81 #[.agg #[.int .i64 7, .int .i64 0, .int .i64 0, .int .u64 0, .int .u64 0, .int .u64 0, .int .i64 0], .agg #[.int .i64 0, .int .u64 1, .int .u64 0, .int .u64 0, .int .i64 0, .int .i64 0]] w fun e w' => e = .returned (.agg #[.int .i64 0, .int .u64 1, .int .u64 0, .int .u64 0, .int .i64 0, .int .i64 0]) ∧ Below w.heap.size w w' := by
  go_enter Tryz.func81, Tryz.ntmps81
  go_wp2
  exact bodyPost_ret (v := .agg #[.int .i64 0, .int .u64 1, .int .u64 0, .int .u64 0, .int .i64 0, .int .i64 0]) (by simp [results, Tryz.results81, go_sem]) rfl ⟨rfl, (below_alloc (below_alloc (below_alloc (below_alloc (Below.refl _ _) _) _) _) _)⟩

set_option maxHeartbeats 4000000 in
set_option maxRecDepth 100000 in
theorem fits_push (w : World) : Calls Tryz.prog 49 #[.agg #[.int .i64 6, .int .i64 0, .int .i64 0, .int .u64 1, .int .u64 0, .int .u64 0, .int .i64 0], .agg #[.int .i64 0, .int .u64 0, .int .u64 0, .int .u64 0, .int .i64 0, .int .i64 0]] w fun e w' => e = .returned (.bool true) ∧ Below w.heap.size w w' := by
  have gc : ∀ d os off, (grow (redrawn ((w.alloc (.cells #[.int .i64 6, .int .i64 0, .int .i64 0, .int .u64 1, .int .u64 0, .int .u64 0, .int .i64 0] 33)).alloc (.cells #[.int .i64 0, .int .u64 0, .int .u64 0, .int .u64 0, .int .i64 0, .int .i64 0] 36)) d) os).cell? ⟨w.heap.size, off, none⟩ = (#[.int .i64 6, .int .i64 0, .int .i64 0, .int .u64 1, .int .u64 0, .int .u64 0, .int .i64 0] : Array Value)[off]? := fun d os => cells_below (below_regrown ((w.alloc (.cells #[.int .i64 6, .int .i64 0, .int .i64 0, .int .u64 1, .int .u64 0, .int .u64 0, .int .i64 0] 33)).alloc (.cells #[.int .i64 0, .int .u64 0, .int .u64 0, .int .u64 0, .int .i64 0, .int .i64 0] 36)) d os) (by simp only [World.size_alloc]; omega) (by repeat (first | exact cells_new _ _ _ _ (by simp) | refine cells_old _ _ _ (by simp only [World.size_alloc]; omega) ?_))
  have ga : ∀ d os off, (grow (redrawn ((w.alloc (.cells #[.int .i64 6, .int .i64 0, .int .i64 0, .int .u64 1, .int .u64 0, .int .u64 0, .int .i64 0] 33)).alloc (.cells #[.int .i64 0, .int .u64 0, .int .u64 0, .int .u64 0, .int .i64 0, .int .i64 0] 36)) d) os).cell? ⟨w.heap.size + 1, off, none⟩ = (#[.int .i64 0, .int .u64 0, .int .u64 0, .int .u64 0, .int .i64 0, .int .i64 0] : Array Value)[off]? := fun d os => cells_below (below_regrown ((w.alloc (.cells #[.int .i64 6, .int .i64 0, .int .i64 0, .int .u64 1, .int .u64 0, .int .u64 0, .int .i64 0] 33)).alloc (.cells #[.int .i64 0, .int .u64 0, .int .u64 0, .int .u64 0, .int .i64 0, .int .i64 0] 36)) d os) (by simp only [World.size_alloc]; omega) (by repeat (first | exact cells_new _ _ _ _ (by simp) | refine cells_old _ _ _ (by simp only [World.size_alloc]; omega) ?_))
  have hne : ∀ W, (binOp .neq 36 (.agg #[.int .i64 0, .int .u64 0, .int .u64 0, .int .u64 0, .int .i64 0, .int .i64 0]) (.agg #[.int .i64 0, .int .u64 0, .int .u64 0, .int .u64 0, .int .i64 0, .int .i64 0])).run Tryz.prog W = .ok (.bool false) W := fun _ => by kernel_rfl
  go_enter Tryz.func49, Tryz.ntmps49
  go_wp2
  refine wp_region_quiet_below (by kernel_rfl) (by kernel_rfl) ?_
  repeat (quiet_step (first | exact Calls.regrown_of (cmay_push _) | exact Calls.regrown_of (told_push _)))
  refine wpQuiet_nil ?_
  intro w1 hw1
  replace hw1 := below_of_regrown hw1
  clear gc ga hne
  have cc : ∀ off, w1.cell? ⟨w.heap.size, off, none⟩ = (#[.int .i64 6, .int .i64 0, .int .i64 0, .int .u64 1, .int .u64 0, .int .u64 0, .int .i64 0] : Array Value)[off]? := cells_below hw1 (by simp only [World.size_alloc]; omega) (by repeat (first | exact cells_new _ _ _ _ (by simp) | refine cells_old _ _ _ (by simp only [World.size_alloc]; omega) ?_))
  have sc : w.heap.size < w1.heap.size := Nat.lt_of_lt_of_le (by simp only [World.size_alloc]; omega) hw1.size
  have ca : ∀ off, w1.cell? ⟨w.heap.size + 1, off, none⟩ = (#[.int .i64 0, .int .u64 0, .int .u64 0, .int .u64 0, .int .i64 0, .int .i64 0] : Array Value)[off]? := cells_below hw1 (by simp only [World.size_alloc]; omega) (by repeat (first | exact cells_new _ _ _ _ (by simp) | refine cells_old _ _ _ (by simp only [World.size_alloc]; omega) ?_))
  have sa : w.heap.size + 1 < w1.heap.size := Nat.lt_of_lt_of_le (by simp only [World.size_alloc]; omega) hw1.size
  go_wp2
  go_ret
  exact ⟨rfl, by (repeat refine below_alloc ?_ _); exact (below_next (below_alloc (below_alloc (Below.refl _ _) _) _) hw1)⟩

set_option maxHeartbeats 4000000 in
set_option maxRecDepth 100000 in
theorem fits_pop (w : World) : Calls Tryz.prog 49 #[.agg #[.int .i64 7, .int .i64 0, .int .i64 0, .int .u64 0, .int .u64 0, .int .u64 0, .int .i64 0], .agg #[.int .i64 0, .int .u64 1, .int .u64 0, .int .u64 0, .int .i64 0, .int .i64 0]] w fun e w' => e = .returned (.bool true) ∧ Below w.heap.size w w' := by
  have gc : ∀ d os off, (grow (redrawn ((w.alloc (.cells #[.int .i64 7, .int .i64 0, .int .i64 0, .int .u64 0, .int .u64 0, .int .u64 0, .int .i64 0] 33)).alloc (.cells #[.int .i64 0, .int .u64 1, .int .u64 0, .int .u64 0, .int .i64 0, .int .i64 0] 36)) d) os).cell? ⟨w.heap.size, off, none⟩ = (#[.int .i64 7, .int .i64 0, .int .i64 0, .int .u64 0, .int .u64 0, .int .u64 0, .int .i64 0] : Array Value)[off]? := fun d os => cells_below (below_regrown ((w.alloc (.cells #[.int .i64 7, .int .i64 0, .int .i64 0, .int .u64 0, .int .u64 0, .int .u64 0, .int .i64 0] 33)).alloc (.cells #[.int .i64 0, .int .u64 1, .int .u64 0, .int .u64 0, .int .i64 0, .int .i64 0] 36)) d os) (by simp only [World.size_alloc]; omega) (by repeat (first | exact cells_new _ _ _ _ (by simp) | refine cells_old _ _ _ (by simp only [World.size_alloc]; omega) ?_))
  have ga : ∀ d os off, (grow (redrawn ((w.alloc (.cells #[.int .i64 7, .int .i64 0, .int .i64 0, .int .u64 0, .int .u64 0, .int .u64 0, .int .i64 0] 33)).alloc (.cells #[.int .i64 0, .int .u64 1, .int .u64 0, .int .u64 0, .int .i64 0, .int .i64 0] 36)) d) os).cell? ⟨w.heap.size + 1, off, none⟩ = (#[.int .i64 0, .int .u64 1, .int .u64 0, .int .u64 0, .int .i64 0, .int .i64 0] : Array Value)[off]? := fun d os => cells_below (below_regrown ((w.alloc (.cells #[.int .i64 7, .int .i64 0, .int .i64 0, .int .u64 0, .int .u64 0, .int .u64 0, .int .i64 0] 33)).alloc (.cells #[.int .i64 0, .int .u64 1, .int .u64 0, .int .u64 0, .int .i64 0, .int .i64 0] 36)) d os) (by simp only [World.size_alloc]; omega) (by repeat (first | exact cells_new _ _ _ _ (by simp) | refine cells_old _ _ _ (by simp only [World.size_alloc]; omega) ?_))
  have hne : ∀ W, (binOp .neq 36 (.agg #[.int .i64 0, .int .u64 1, .int .u64 0, .int .u64 0, .int .i64 0, .int .i64 0]) (.agg #[.int .i64 0, .int .u64 1, .int .u64 0, .int .u64 0, .int .i64 0, .int .i64 0])).run Tryz.prog W = .ok (.bool false) W := fun _ => by kernel_rfl
  go_enter Tryz.func49, Tryz.ntmps49
  go_wp2
  refine wp_region_quiet_below (by kernel_rfl) (by kernel_rfl) ?_
  repeat (quiet_step (first | exact Calls.regrown_of (cmay_pop _) | exact Calls.regrown_of (told_pop _)))
  refine wpQuiet_nil ?_
  intro w1 hw1
  replace hw1 := below_of_regrown hw1
  clear gc ga hne
  have cc : ∀ off, w1.cell? ⟨w.heap.size, off, none⟩ = (#[.int .i64 7, .int .i64 0, .int .i64 0, .int .u64 0, .int .u64 0, .int .u64 0, .int .i64 0] : Array Value)[off]? := cells_below hw1 (by simp only [World.size_alloc]; omega) (by repeat (first | exact cells_new _ _ _ _ (by simp) | refine cells_old _ _ _ (by simp only [World.size_alloc]; omega) ?_))
  have sc : w.heap.size < w1.heap.size := Nat.lt_of_lt_of_le (by simp only [World.size_alloc]; omega) hw1.size
  have ca : ∀ off, w1.cell? ⟨w.heap.size + 1, off, none⟩ = (#[.int .i64 0, .int .u64 1, .int .u64 0, .int .u64 0, .int .i64 0, .int .i64 0] : Array Value)[off]? := cells_below hw1 (by simp only [World.size_alloc]; omega) (by repeat (first | exact cells_new _ _ _ _ (by simp) | refine cells_old _ _ _ (by simp only [World.size_alloc]; omega) ?_))
  have sa : w.heap.size + 1 < w1.heap.size := Nat.lt_of_lt_of_le (by simp only [World.size_alloc]; omega) hw1.size
  go_wp2
  go_ret
  exact ⟨rfl, by (repeat refine below_alloc ?_ _); exact (below_next (below_alloc (below_alloc (Below.refl _ _) _) _) hw1)⟩

set_option maxHeartbeats 4000000 in
set_option maxRecDepth 100000 in
theorem mayt_push (qv : Value) (w : World) : Calls Tryz.prog 48 #[.agg #[.int .i64 1, .int .i64 1, .int .i64 0, .int .i64 0, .int .i64 0, .int .i64 0, .int .i64 0, .int .i64 0, .int .i64 0, .int .i64 0, .int .i64 2, .int .i64 1, .int .i64 1, .int .i64 0, .int .i64 0, .slice none 0 0, .int .i64 0, .bool false, .int .i64 0, .bool false, .int .i64 0, .bool false, .int .i64 0, .bool false, .int .i64 0, .int .u64 0, .int .i64 0, .bool false, .int .i64 0, .bool false, .int .i64 0, .bool false, .int .i64 0, .bool false, .int .i64 0, .int .u64 0, .int .i64 0, .int .u64 0, .int .u64 0, .int .i64 0, .int .u64 0, .int .u64 0, .int .i64 0, .int .u64 0, .int .u64 0, .int .i64 0, .int .u64 0, .int .u64 0, .int .i64 0, .int .u64 0, .int .u64 0, .int .i64 0, .int .u64 0, .int .u64 0, .int .i64 0, .int .u64 0, .int .u64 0, .int .i64 0, .int .u64 0, .int .u64 0, qv, .slice none 0 0, .slice none 0 0], .bool true, .agg #[.int .i64 6, .int .i64 0, .int .i64 0, .int .u64 1, .int .u64 0, .int .u64 0, .int .i64 0], .agg #[.int .i64 0, .int .u64 0, .int .u64 0, .int .u64 0, .int .i64 0, .int .i64 0]] w fun e w' => e = .returned (.bool false) ∧ Below w.heap.size w w' := by
  go_enter Tryz.func48, Tryz.ntmps48
  go_wp2_with fail
  refine (fits_push _).mono ?_
  rintro e w1 ⟨rfl, hb1⟩
  have ca : ∀ off, w1.cell? ⟨w.heap.size + 1 + 1, off, none⟩ = (#[.int .i64 0, .int .u64 0, .int .u64 0, .int .u64 0, .int .i64 0, .int .i64 0] : Array Value)[off]? := cells_below hb1 (by simp only [World.size_alloc]; omega) (by repeat (first | exact cells_new _ _ _ _ (by simp) | refine cells_old _ _ _ (by simp only [World.size_alloc]; omega) ?_))
  have sa : w.heap.size + 1 + 1 < w1.heap.size := Nat.lt_of_lt_of_le (by simp only [World.size_alloc]; omega) hb1.size
  go_wp2
  go_ret
  exact ⟨rfl, (below_next (below_alloc (below_alloc (below_alloc (Below.refl _ _) _) _) _) hb1)⟩

set_option maxHeartbeats 4000000 in
set_option maxRecDepth 100000 in
theorem mayt_pop (qv : Value) (w : World) : Calls Tryz.prog 48 #[.agg #[.int .i64 1, .int .i64 1, .int .i64 0, .int .i64 0, .int .i64 0, .int .i64 0, .int .i64 0, .int .i64 0, .int .i64 0, .int .i64 0, .int .i64 2, .int .i64 1, .int .i64 1, .int .i64 0, .int .i64 0, .slice none 0 0, .int .i64 0, .bool false, .int .i64 0, .bool false, .int .i64 0, .bool false, .int .i64 0, .bool false, .int .i64 0, .int .u64 0, .int .i64 0, .bool false, .int .i64 0, .bool false, .int .i64 0, .bool false, .int .i64 0, .bool false, .int .i64 0, .int .u64 0, .int .i64 0, .int .u64 0, .int .u64 0, .int .i64 0, .int .u64 0, .int .u64 0, .int .i64 0, .int .u64 0, .int .u64 0, .int .i64 0, .int .u64 0, .int .u64 0, .int .i64 0, .int .u64 0, .int .u64 0, .int .i64 0, .int .u64 0, .int .u64 0, .int .i64 0, .int .u64 0, .int .u64 0, .int .i64 0, .int .u64 0, .int .u64 0, qv, .slice none 0 0, .slice none 0 0], .bool true, .agg #[.int .i64 7, .int .i64 0, .int .i64 0, .int .u64 0, .int .u64 0, .int .u64 0, .int .i64 0], .agg #[.int .i64 0, .int .u64 1, .int .u64 0, .int .u64 0, .int .i64 0, .int .i64 0]] w fun e w' => e = .returned (.bool false) ∧ Below w.heap.size w w' := by
  go_enter Tryz.func48, Tryz.ntmps48
  go_wp2_with fail
  refine (fits_pop _).mono ?_
  rintro e w1 ⟨rfl, hb1⟩
  have ca : ∀ off, w1.cell? ⟨w.heap.size + 1 + 1, off, none⟩ = (#[.int .i64 0, .int .u64 1, .int .u64 0, .int .u64 0, .int .i64 0, .int .i64 0] : Array Value)[off]? := cells_below hb1 (by simp only [World.size_alloc]; omega) (by repeat (first | exact cells_new _ _ _ _ (by simp) | refine cells_old _ _ _ (by simp only [World.size_alloc]; omega) ?_))
  have sa : w.heap.size + 1 + 1 < w1.heap.size := Nat.lt_of_lt_of_le (by simp only [World.size_alloc]; omega) hb1.size
  go_wp2
  go_ret
  exact ⟨rfl, (below_next (below_alloc (below_alloc (below_alloc (Below.refl _ _) _) _) _) hb1)⟩

end Go.Proofs.YtphbnfjamclmjaaGreatDoor
