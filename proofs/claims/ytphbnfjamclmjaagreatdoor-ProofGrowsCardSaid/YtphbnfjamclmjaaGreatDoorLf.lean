import Derived.Test.YtphbnfjamclmjaaGreatDoorLe
import Derived.Deep.RegionHeld3
namespace Go.Proofs.YtphbnfjamclmjaaGreatDoor
open Go.RowKit Go.Sort
set_option linter.unusedVariables false
set_option linter.unusedSimpArgs false

attribute [local go_sem] St_0 St_1 St_2 St_3 St_4 St_5 St_6 St_7 St_8 St_9 St_10 St_11 St_12 St_13 St_14 St_60

set_option maxHeartbeats 4000000 in
set_option maxRecDepth 100000 in
theorem pop_nil_below (w : World) : Calls Tryz.prog 113 #[.agg #[.slice none 0 0]] w fun e w' => e = .returned (.tuple #[.agg #[.slice none 0 0], .agg #[.int .u64 0, .int .u64 0], .bool false]) ∧ Below w.heap.size w w' :=
  (pop_nil_x w).mono fun e w' ⟨he, hw⟩ => ⟨he, hw ▸ (by repeat (first | exact Below.refl _ _ | refine Below.drew ?_ | refine below_alloc ?_ _))⟩

set_option maxHeartbeats 4000000 in
set_option maxRecDepth 100000 in
theorem line_nil (w : World) : Calls Tryz.prog 75 #[.agg (St (.slice none 0 0)), .agg #[.int .i64 7, .int .i64 0, .int .i64 0, .int .u64 0, .int .u64 0, .int .u64 0, .int .i64 0]] w fun e w' => e = .returned (.tuple #[.agg (St (.slice none 0 0)), .agg #[.int .i64 6, .int .u64 0, .int .u64 0, .int .u64 0, .int .i64 0, .int .i64 0]]) ∧ Below w.heap.size w w' := by
  go_enter Tryz.func75, Tryz.ntmps75
  go_wp2_with fail
  refine (pop_nil_below _).mono ?_
  rintro e w1 ⟨rfl, hb1⟩
  have bs : w1.heap[w.heap.size]? = some (.cells (St (.slice none 0 0)) 94) := blk_below hb1 (by simp only [World.size_alloc]; omega) (by repeat (first | (refine blk_new _ _ _ _ ?_; simp; done) | (refine blk_old _ _ _ ?_ ?_; simp only [World.size_alloc]; omega)))
  have cs := cell_blk bs
  have fs := frz_blk bs
  have ss := lt_blk bs
  have bc : w1.heap[w.heap.size + 1]? = some (.cells #[.int .i64 7, .int .i64 0, .int .i64 0, .int .u64 0, .int .u64 0, .int .u64 0, .int .i64 0] 33) := blk_below hb1 (by simp only [World.size_alloc]; omega) (by repeat (first | (refine blk_new _ _ _ _ ?_; simp; done) | (refine blk_old _ _ _ ?_ ?_; simp only [World.size_alloc]; omega)))
  have cc := cell_blk bc
  have fc := frz_blk bc
  have sc := lt_blk bc
  have bz : w1.heap[w.heap.size + 1 + 1]? = some (.cells Zst 94) := blk_below hb1 (by simp only [World.size_alloc]; omega) (by repeat (first | (refine blk_new _ _ _ _ ?_; simp; done) | (refine blk_old _ _ _ ?_ ?_; simp only [World.size_alloc]; omega)))
  have cz := cell_blk bz
  have fz := frz_blk bz
  have sz := lt_blk bz
  have ba : w1.heap[w.heap.size + 1 + 1 + 1]? = some (.cells #[.int .i64 0, .int .u64 0, .int .u64 0, .int .u64 0, .int .i64 0, .int .i64 0] 36) := blk_below hb1 (by simp only [World.size_alloc]; omega) (by repeat (first | (refine blk_new _ _ _ _ ?_; simp; done) | (refine blk_old _ _ _ ?_ ?_; simp only [World.size_alloc]; omega)))
  have ca := cell_blk ba
  have fa := frz_blk ba
  have sa := lt_blk ba
  clear cs cc cz ca fs fc fz fa
  go_wp2_with (first | (refine wpList_load_row rfl 94 (.tmp 2) rfl _ rfl 94 _ _ _ (blk_old _ _ _ (by simp; omega) (blk_old _ _ _ (by omega) bs)) Tryz.underlying94 rfl (by kernel_rfl) ?_) | (refine wpList_store_row rfl 94 (.tmp 4) (.tmp 30) rfl _ (St (.slice none 0 0)) rfl rfl 94 Zst (blk_old _ _ _ (by simp; omega) (blk_old _ _ _ (by omega) bz)) (by kernel_rfl) rfl (St_one _ rfl) ?_) | (refine wpList_store_row rfl 36 (.tmp 5) (.tmp 31) rfl _ #[.int .i64 6, .int .u64 0, .int .u64 0, .int .u64 0, .int .i64 0, .int .i64 0] rfl rfl 36 #[.int .i64 0, .int .u64 0, .int .u64 0, .int .u64 0, .int .i64 0, .int .i64 0] ((setRow_other _ _ _ _ (by omega)).trans (blk_old _ _ _ (by simp; omega) (blk_old _ _ _ (by omega) ba))) (by kernel_rfl) rfl (by simp [Value.oneCell']) ?_))
  have r0 : ((((w1.alloc (.cells #[.slice none 0 0] 89)).alloc (.cells #[.int .u64 0, .int .u64 0] 31)).setRow (w.heap.size + 1 + 1) (St (.slice none 0 0))).setRow (w.heap.size + 1 + 1 + 1) #[.int .i64 6, .int .u64 0, .int .u64 0, .int .u64 0, .int .i64 0, .int .i64 0]).heap[w.heap.size + 1 + 1]? = some (.cells (St (.slice none 0 0)) 94) := (setRow_other _ _ _ _ (by omega)).trans (setRow_heap _ _ Zst _ 94 (0, 0) (blk_old _ _ _ (by simp; omega) (blk_old _ _ _ (by omega) bz)))
  have r1 : ((((w1.alloc (.cells #[.slice none 0 0] 89)).alloc (.cells #[.int .u64 0, .int .u64 0] 31)).setRow (w.heap.size + 1 + 1) (St (.slice none 0 0))).setRow (w.heap.size + 1 + 1 + 1) #[.int .i64 6, .int .u64 0, .int .u64 0, .int .u64 0, .int .i64 0, .int .i64 0]).heap[w.heap.size + 1 + 1 + 1]? = some (.cells #[.int .i64 6, .int .u64 0, .int .u64 0, .int .u64 0, .int .i64 0, .int .i64 0] 36) := setRow_heap _ _ #[.int .i64 0, .int .u64 0, .int .u64 0, .int .u64 0, .int .i64 0, .int .i64 0] _ 36 (0, 0) ((setRow_other _ _ _ _ (by omega)).trans (blk_old _ _ _ (by simp; omega) (blk_old _ _ _ (by omega) ba)))
  have l0 := run_loadVar_row (P := Tryz.prog) _ _ _ 94 _ _ _ r0 Tryz.underlying94 rfl (by kernel_rfl)
  have l1 := run_loadVar_row (P := Tryz.prog) _ _ _ 36 _ _ _ r1 Tryz.underlying36 rfl (by kernel_rfl)
  exact bodyPost_ret (v := .tuple #[.agg (St (.slice none 0 0)), .agg #[.int .i64 6, .int .u64 0, .int .u64 0, .int .u64 0, .int .i64 0, .int .i64 0]]) (by simp [results, Tryz.results75, asAddr, Act.put, l0, l1]) rfl ⟨rfl, below_setRow (below_setRow (below_alloc (below_alloc (below_next (below_alloc (below_alloc (below_alloc (below_alloc (Below.refl _ _) _) _) _) _) hb1) _) _) (by omega) _) (by omega) _⟩

def LinePush (St : Value → Array Value) (w : World) (e : Ending) (w' : World) : Prop := ∃ g cap : Nat, e = .returned (.tuple #[.agg (St (.slice (some ⟨g, 0, none⟩) 1 cap)), .agg #[.int .i64 0, .int .u64 0, .int .u64 0, .int .u64 0, .int .i64 0, .int .i64 0]]) ∧ 1 ≤ cap ∧ w.heap.size ≤ g ∧ g < w'.heap.size ∧ w'.cell? ⟨g, 0, none⟩ = some (.int .u64 1) ∧ w'.cell? ⟨g, 1, none⟩ = some (.int .u64 0) ∧ Below w.heap.size w w'

set_option maxHeartbeats 4000000 in
set_option maxRecDepth 100000 in
theorem line_push (w : World) : Calls Tryz.prog 75 #[.agg (St (.slice none 0 0)), .agg #[.int .i64 6, .int .i64 0, .int .i64 0, .int .u64 1, .int .u64 0, .int .u64 0, .int .i64 0]] w (LinePush St w) := by
  go_enter Tryz.func75, Tryz.ntmps75
  go_wp2_with fail
  refine (push_1 _).mono ?_
  rintro e w1 ⟨g, cap, rfl, hcap, hg1, hg2, e0, e1, hb1⟩
  have bs : w1.heap[w.heap.size]? = some (.cells (St (.slice none 0 0)) 94) := blk_below hb1 (by simp only [World.size_alloc]; omega) (by repeat (first | (refine blk_new _ _ _ _ ?_; simp; done) | (refine blk_old _ _ _ ?_ ?_; simp only [World.size_alloc]; omega)))
  have cs := cell_blk bs
  have fs := frz_blk bs
  have ss := lt_blk bs
  have bc : w1.heap[w.heap.size + 1]? = some (.cells #[.int .i64 6, .int .i64 0, .int .i64 0, .int .u64 1, .int .u64 0, .int .u64 0, .int .i64 0] 33) := blk_below hb1 (by simp only [World.size_alloc]; omega) (by repeat (first | (refine blk_new _ _ _ _ ?_; simp; done) | (refine blk_old _ _ _ ?_ ?_; simp only [World.size_alloc]; omega)))
  have cc := cell_blk bc
  have fc := frz_blk bc
  have sc := lt_blk bc
  have bz : w1.heap[w.heap.size + 1 + 1]? = some (.cells Zst 94) := blk_below hb1 (by simp only [World.size_alloc]; omega) (by repeat (first | (refine blk_new _ _ _ _ ?_; simp; done) | (refine blk_old _ _ _ ?_ ?_; simp only [World.size_alloc]; omega)))
  have cz := cell_blk bz
  have fz := frz_blk bz
  have sz := lt_blk bz
  have ba : w1.heap[w.heap.size + 1 + 1 + 1]? = some (.cells #[.int .i64 0, .int .u64 0, .int .u64 0, .int .u64 0, .int .i64 0, .int .i64 0] 36) := blk_below hb1 (by simp only [World.size_alloc]; omega) (by repeat (first | (refine blk_new _ _ _ _ ?_; simp; done) | (refine blk_old _ _ _ ?_ ?_; simp only [World.size_alloc]; omega)))
  have ca := cell_blk ba
  have fa := frz_blk ba
  have sa := lt_blk ba
  replace hg1 : w.heap.size + 1 + 1 + 1 < g := by simp only [World.size_alloc] at hg1; omega
  clear cc cz ca fc fz fa bc
  have bs2 : (w1.setCell ⟨w.heap.size, 60, none⟩ (.slice (some ⟨g, 0, none⟩) 1 cap)).heap[w.heap.size]? = some (.cells (St (.slice (some ⟨g, 0, none⟩) 1 cap)) 94) := blk_set _ _ _ _ bs
  have bz2 : (w1.setCell ⟨w.heap.size, 60, none⟩ (.slice (some ⟨g, 0, none⟩) 1 cap)).heap[w.heap.size + 1 + 1]? = some (.cells Zst 94) := blk_far _ _ _ _ _ (by omega) bz
  have ba2 : (w1.setCell ⟨w.heap.size, 60, none⟩ (.slice (some ⟨g, 0, none⟩) 1 cap)).heap[w.heap.size + 1 + 1 + 1]? = some (.cells #[.int .i64 0, .int .u64 0, .int .u64 0, .int .u64 0, .int .i64 0, .int .i64 0] 36) := blk_far _ _ _ _ _ (by omega) ba
  clear bs bz ba
  go_wp2_with (first | (refine wpList_load_row rfl 94 (.tmp 2) rfl _ rfl 94 _ _ _ bs2 Tryz.underlying94 rfl (by kernel_rfl) ?_) | (refine wpList_store_row rfl 94 (.tmp 4) (.tmp 18) rfl _ (St (.slice (some ⟨g, 0, none⟩) 1 cap)) rfl rfl 94 Zst bz2 (by kernel_rfl) rfl (St_one _ rfl) ?_) | (refine wpList_store_row rfl 36 (.tmp 5) (.tmp 19) rfl _ #[.int .i64 0, .int .u64 0, .int .u64 0, .int .u64 0, .int .i64 0, .int .i64 0] rfl rfl 36 #[.int .i64 0, .int .u64 0, .int .u64 0, .int .u64 0, .int .i64 0, .int .i64 0] ((setRow_other _ _ _ _ (by omega)).trans ba2) (by kernel_rfl) rfl (by simp [Value.oneCell']) ?_))
  have r0 : (((w1.setCell ⟨w.heap.size, 60, none⟩ (.slice (some ⟨g, 0, none⟩) 1 cap)).setRow (w.heap.size + 1 + 1) (St (.slice (some ⟨g, 0, none⟩) 1 cap))).setRow (w.heap.size + 1 + 1 + 1) #[.int .i64 0, .int .u64 0, .int .u64 0, .int .u64 0, .int .i64 0, .int .i64 0]).heap[w.heap.size + 1 + 1]? = some (.cells (St (.slice (some ⟨g, 0, none⟩) 1 cap)) 94) := (setRow_other _ _ _ _ (by omega)).trans (setRow_heap _ _ Zst _ 94 (0, 0) bz2)
  have r1 : (((w1.setCell ⟨w.heap.size, 60, none⟩ (.slice (some ⟨g, 0, none⟩) 1 cap)).setRow (w.heap.size + 1 + 1) (St (.slice (some ⟨g, 0, none⟩) 1 cap))).setRow (w.heap.size + 1 + 1 + 1) #[.int .i64 0, .int .u64 0, .int .u64 0, .int .u64 0, .int .i64 0, .int .i64 0]).heap[w.heap.size + 1 + 1 + 1]? = some (.cells #[.int .i64 0, .int .u64 0, .int .u64 0, .int .u64 0, .int .i64 0, .int .i64 0] 36) := setRow_heap _ _ #[.int .i64 0, .int .u64 0, .int .u64 0, .int .u64 0, .int .i64 0, .int .i64 0] _ 36 (0, 0) ((setRow_other _ _ _ _ (by omega)).trans ba2)
  have l0 := run_loadVar_row (P := Tryz.prog) _ _ _ 94 _ _ _ r0 Tryz.underlying94 rfl (by kernel_rfl)
  have l1 := run_loadVar_row (P := Tryz.prog) _ _ _ 36 _ _ _ r1 Tryz.underlying36 rfl (by kernel_rfl)
  refine bodyPost_ret (v := .tuple #[.agg (St (.slice (some ⟨g, 0, none⟩) 1 cap)), .agg #[.int .i64 0, .int .u64 0, .int .u64 0, .int .u64 0, .int .i64 0, .int .i64 0]]) (by simp [results, Tryz.results75, asAddr, Act.put, l0, l1]) rfl ⟨g, cap, rfl, hcap, by omega, by simpa using hg2, ?_, ?_, below_setRow (below_setRow ((below_next (below_alloc (below_alloc (below_alloc (below_alloc (Below.refl _ _) _) _) _) _) hb1).setCell (p := ⟨w.heap.size, 60, none⟩) (Nat.le_refl _) _) (by omega) _) (by omega) _⟩
  · rw [cell_setRow_other _ _ _ _ (by simp; omega), cell_setRow_other _ _ _ _ (by simp; omega), World.cell?_setCell_far _ _ _ _ (by simp; omega)]; exact e0
  · rw [cell_setRow_other _ _ _ _ (by simp; omega), cell_setRow_other _ _ _ _ (by simp; omega), World.cell?_setCell_far _ _ _ _ (by simp; omega)]; exact e1

end Go.Proofs.YtphbnfjamclmjaaGreatDoor
