import Derived.Test.YtphbnfjamclmjaaGreatDoorLf
import Derived.Deep.RegionHeld3
namespace Go.Proofs.YtphbnfjamclmjaaGreatDoor
open Go.RowKit Go.Sort
set_option linter.unusedVariables false
set_option linter.unusedSimpArgs false

attribute [local go_sem] St_0 St_1 St_2 St_3 St_4 St_5 St_6 St_7 St_8 St_9 St_10 St_11 St_12 St_13 St_14 St_60

set_option maxHeartbeats 4000000 in
set_option maxRecDepth 100000 in
theorem does_nil (w : World) : Calls Tryz.prog 45 #[.agg (St (.slice none 0 0)), .bool true, .agg #[.int .i64 7, .int .i64 0, .int .i64 0, .int .u64 0, .int .u64 0, .int .u64 0, .int .i64 0], .int .u64 0] w fun e w' => e = .returned (.tuple #[.agg (St (.slice none 0 0)), .agg #[.int .i64 6, .int .u64 0, .int .u64 0, .int .u64 0, .int .i64 0, .int .i64 0]]) ∧ Below w.heap.size w w' := by
  have bs0 : ((((w.alloc (.cells (St (.slice none 0 0)) 94)).alloc (.cells #[.int .i64 7, .int .i64 0, .int .i64 0, .int .u64 0, .int .u64 0, .int .u64 0, .int .i64 0] 33)).alloc (.cells Zst 94)).alloc (.cells #[.int .i64 0, .int .u64 0, .int .u64 0, .int .u64 0, .int .i64 0, .int .i64 0] 36)).heap[w.heap.size]? = some (.cells (St (.slice none 0 0)) 94) := (by repeat (first | (refine blk_new _ _ _ _ ?_; simp; done) | (refine blk_old _ _ _ ?_ ?_; simp only [World.size_alloc]; omega)))
  go_enter Tryz.func45, Tryz.ntmps45
  go_wp2_with (first | (go_at_call 75; fail) | (refine wpList_load_row rfl 94 (.tmp 4) rfl _ rfl 94 _ _ _ bs0 Tryz.underlying94 rfl (by kernel_rfl) ?_))
  refine (line_nil _).mono ?_
  rintro e w1 ⟨rfl, hb1⟩
  have bs : w1.heap[w.heap.size]? = some (.cells (St (.slice none 0 0)) 94) := blk_below hb1 (by simp only [World.size_alloc]; omega) (by repeat (first | (refine blk_new _ _ _ _ ?_; simp; done) | (refine blk_old _ _ _ ?_ ?_; simp only [World.size_alloc]; omega)))
  have cs := cell_blk bs
  have fs := frz_blk bs
  have ss := lt_blk bs
  have bc : w1.heap[w.heap.size + 1]? = some (.cells #[.int .i64 7, .int .i64 0, .int .i64 0, .int .u64 0, .int .u64 0, .int .u64 0, .int .i64 0] 33) := blk_below hb1 (by simp only [World.size_alloc]; omega) (by repeat (first | (refine blk_new _ _ _ _ ?_; simp; done) | (refine blk_old _ _ _ ?_ ?_; simp only [World.size_alloc]; omega)))
  have cc := cell_blk bc
  have fc := frz_blk bc
  have sc := lt_blk bc
  have bz : w1.heap[w.heap.size + 1 + 1]? = some (.cells Zst 94) := blk_below hb1 (by simp only [World.size_alloc]; omega) (by repeat (first | (refine blk_new _ _ _ _ ?_; simp; done) | (refine blk_old _ _ _ ?_ ?_; simp only [World.size_alloc]; omega)))
  have cz := cell_blk bz
  have fz := frz_blk bz
  have sz := lt_blk bz
  have ba : w1.heap[w.heap.size + 1 + 1 + 1]? = some (.cells #[.int .i64 0, .int .u64 0, .int .u64 0, .int .u64 0, .int .i64 0, .int .i64 0] 36) := blk_below hb1 (by simp only [World.size_alloc]; omega) (by repeat (first | (refine blk_new _ _ _ _ ?_; simp; done) | (refine blk_old _ _ _ ?_ ?_; simp only [World.size_alloc]; omega)))
  have ca := cell_blk ba
  have fa := frz_blk ba
  have sa := lt_blk ba
  clear cs cc cz ca fs fc fz fa bc bs bs0
  go_wp2_with (first | (refine wpList_store_row rfl 94 (.tmp 8) (.tmp 64) rfl _ (St (.slice none 0 0)) rfl rfl 94 Zst bz (by kernel_rfl) rfl (St_one _ rfl) ?_) | (refine wpList_store_row rfl 36 (.tmp 9) (.tmp 65) rfl _ #[.int .i64 6, .int .u64 0, .int .u64 0, .int .u64 0, .int .i64 0, .int .i64 0] rfl rfl 36 #[.int .i64 0, .int .u64 0, .int .u64 0, .int .u64 0, .int .i64 0, .int .i64 0] ((setRow_other _ _ _ _ (by omega)).trans ba) (by kernel_rfl) rfl (by simp [Value.oneCell']) ?_))
  have r0 : ((w1.setRow (w.heap.size + 1 + 1) (St (.slice none 0 0))).setRow (w.heap.size + 1 + 1 + 1) #[.int .i64 6, .int .u64 0, .int .u64 0, .int .u64 0, .int .i64 0, .int .i64 0]).heap[w.heap.size + 1 + 1]? = some (.cells (St (.slice none 0 0)) 94) := (setRow_other _ _ _ _ (by omega)).trans (setRow_heap _ _ Zst _ 94 (0, 0) bz)
  have r1 : ((w1.setRow (w.heap.size + 1 + 1) (St (.slice none 0 0))).setRow (w.heap.size + 1 + 1 + 1) #[.int .i64 6, .int .u64 0, .int .u64 0, .int .u64 0, .int .i64 0, .int .i64 0]).heap[w.heap.size + 1 + 1 + 1]? = some (.cells #[.int .i64 6, .int .u64 0, .int .u64 0, .int .u64 0, .int .i64 0, .int .i64 0] 36) := setRow_heap _ _ #[.int .i64 0, .int .u64 0, .int .u64 0, .int .u64 0, .int .i64 0, .int .i64 0] _ 36 (0, 0) ((setRow_other _ _ _ _ (by omega)).trans ba)
  have l0 := run_loadVar_row (P := Tryz.prog) _ _ _ 94 _ _ _ r0 Tryz.underlying94 rfl (by kernel_rfl)
  have l1 := run_loadVar_row (P := Tryz.prog) _ _ _ 36 _ _ _ r1 Tryz.underlying36 rfl (by kernel_rfl)
  exact bodyPost_ret (v := .tuple #[.agg (St (.slice none 0 0)), .agg #[.int .i64 6, .int .u64 0, .int .u64 0, .int .u64 0, .int .i64 0, .int .i64 0]]) (by simp [results, Tryz.results45, asAddr, Act.put, l0, l1]) rfl ⟨rfl, below_setRow (below_setRow (below_next (below_alloc (below_alloc (below_alloc (below_alloc (Below.refl _ _) _) _) _) _) hb1) (by omega) _) (by omega) _⟩

set_option maxHeartbeats 4000000 in
set_option maxRecDepth 100000 in
theorem does_push (w : World) : Calls Tryz.prog 45 #[.agg (St (.slice none 0 0)), .bool true, .agg #[.int .i64 6, .int .i64 0, .int .i64 0, .int .u64 1, .int .u64 0, .int .u64 0, .int .i64 0], .int .u64 0] w (LinePush St w) := by
  have bs0 : ((((w.alloc (.cells (St (.slice none 0 0)) 94)).alloc (.cells #[.int .i64 6, .int .i64 0, .int .i64 0, .int .u64 1, .int .u64 0, .int .u64 0, .int .i64 0] 33)).alloc (.cells Zst 94)).alloc (.cells #[.int .i64 0, .int .u64 0, .int .u64 0, .int .u64 0, .int .i64 0, .int .i64 0] 36)).heap[w.heap.size]? = some (.cells (St (.slice none 0 0)) 94) := (by repeat (first | (refine blk_new _ _ _ _ ?_; simp; done) | (refine blk_old _ _ _ ?_ ?_; simp only [World.size_alloc]; omega)))
  go_enter Tryz.func45, Tryz.ntmps45
  go_wp2_with (first | (go_at_call 75; fail) | (refine wpList_load_row rfl 94 (.tmp 4) rfl _ rfl 94 _ _ _ bs0 Tryz.underlying94 rfl (by kernel_rfl) ?_))
  refine (line_push _).mono ?_
  rintro e w1 ⟨g, cap, rfl, hcap, hg1, hg2, e0, e1, hb1⟩; replace hg1 : w.heap.size + 1 + 1 + 1 < g := by (simp only [World.size_alloc] at hg1; omega)
  have bs : w1.heap[w.heap.size]? = some (.cells (St (.slice none 0 0)) 94) := blk_below hb1 (by simp only [World.size_alloc]; omega) (by repeat (first | (refine blk_new _ _ _ _ ?_; simp; done) | (refine blk_old _ _ _ ?_ ?_; simp only [World.size_alloc]; omega)))
  have cs := cell_blk bs
  have fs := frz_blk bs
  have ss := lt_blk bs
  have bc : w1.heap[w.heap.size + 1]? = some (.cells #[.int .i64 6, .int .i64 0, .int .i64 0, .int .u64 1, .int .u64 0, .int .u64 0, .int .i64 0] 33) := blk_below hb1 (by simp only [World.size_alloc]; omega) (by repeat (first | (refine blk_new _ _ _ _ ?_; simp; done) | (refine blk_old _ _ _ ?_ ?_; simp only [World.size_alloc]; omega)))
  have cc := cell_blk bc
  have fc := frz_blk bc
  have sc := lt_blk bc
  have bz : w1.heap[w.heap.size + 1 + 1]? = some (.cells Zst 94) := blk_below hb1 (by simp only [World.size_alloc]; omega) (by repeat (first | (refine blk_new _ _ _ _ ?_; simp; done) | (refine blk_old _ _ _ ?_ ?_; simp only [World.size_alloc]; omega)))
  have cz := cell_blk bz
  have fz := frz_blk bz
  have sz := lt_blk bz
  have ba : w1.heap[w.heap.size + 1 + 1 + 1]? = some (.cells #[.int .i64 0, .int .u64 0, .int .u64 0, .int .u64 0, .int .i64 0, .int .i64 0] 36) := blk_below hb1 (by simp only [World.size_alloc]; omega) (by repeat (first | (refine blk_new _ _ _ _ ?_; simp; done) | (refine blk_old _ _ _ ?_ ?_; simp only [World.size_alloc]; omega)))
  have ca := cell_blk ba
  have fa := frz_blk ba
  have sa := lt_blk ba
  clear cs cc cz ca fs fc fz fa bc bs bs0
  go_wp2_with (first | (refine wpList_store_row rfl 94 (.tmp 8) (.tmp 64) rfl _ (St (.slice (some ⟨g, 0, none⟩) 1 cap)) rfl rfl 94 Zst bz (by kernel_rfl) rfl (St_one _ rfl) ?_) | (refine wpList_store_row rfl 36 (.tmp 9) (.tmp 65) rfl _ #[.int .i64 0, .int .u64 0, .int .u64 0, .int .u64 0, .int .i64 0, .int .i64 0] rfl rfl 36 #[.int .i64 0, .int .u64 0, .int .u64 0, .int .u64 0, .int .i64 0, .int .i64 0] ((setRow_other _ _ _ _ (by omega)).trans ba) (by kernel_rfl) rfl (by simp [Value.oneCell']) ?_))
  have r0 : ((w1.setRow (w.heap.size + 1 + 1) (St (.slice (some ⟨g, 0, none⟩) 1 cap))).setRow (w.heap.size + 1 + 1 + 1) #[.int .i64 0, .int .u64 0, .int .u64 0, .int .u64 0, .int .i64 0, .int .i64 0]).heap[w.heap.size + 1 + 1]? = some (.cells (St (.slice (some ⟨g, 0, none⟩) 1 cap)) 94) := (setRow_other _ _ _ _ (by omega)).trans (setRow_heap _ _ Zst _ 94 (0, 0) bz)
  have r1 : ((w1.setRow (w.heap.size + 1 + 1) (St (.slice (some ⟨g, 0, none⟩) 1 cap))).setRow (w.heap.size + 1 + 1 + 1) #[.int .i64 0, .int .u64 0, .int .u64 0, .int .u64 0, .int .i64 0, .int .i64 0]).heap[w.heap.size + 1 + 1 + 1]? = some (.cells #[.int .i64 0, .int .u64 0, .int .u64 0, .int .u64 0, .int .i64 0, .int .i64 0] 36) := setRow_heap _ _ #[.int .i64 0, .int .u64 0, .int .u64 0, .int .u64 0, .int .i64 0, .int .i64 0] _ 36 (0, 0) ((setRow_other _ _ _ _ (by omega)).trans ba)
  have l0 := run_loadVar_row (P := Tryz.prog) _ _ _ 94 _ _ _ r0 Tryz.underlying94 rfl (by kernel_rfl)
  have l1 := run_loadVar_row (P := Tryz.prog) _ _ _ 36 _ _ _ r1 Tryz.underlying36 rfl (by kernel_rfl)
  refine bodyPost_ret (v := .tuple #[.agg (St (.slice (some ⟨g, 0, none⟩) 1 cap)), .agg #[.int .i64 0, .int .u64 0, .int .u64 0, .int .u64 0, .int .i64 0, .int .i64 0]]) (by simp [results, Tryz.results45, asAddr, Act.put, l0, l1]) rfl ⟨g, cap, rfl, hcap, by omega, by simpa using hg2, ?_, ?_, below_setRow (below_setRow (below_next (below_alloc (below_alloc (below_alloc (below_alloc (Below.refl _ _) _) _) _) _) hb1) (by omega) _) (by omega) _⟩
  · rw [cell_setRow_other _ _ _ _ (by simp; omega), cell_setRow_other _ _ _ _ (by simp; omega)]; exact e0
  · rw [cell_setRow_other _ _ _ _ (by simp; omega), cell_setRow_other _ _ _ _ (by simp; omega)]; exact e1

set_option maxHeartbeats 4000000 in
set_option maxRecDepth 100000 in
theorem does_pop_a (g : Nat) (w : World) (e0 : w.cell? ⟨g, 0, none⟩ = some (.int .u64 1)) (e1 : w.cell? ⟨g, 1, none⟩ = some (.int .u64 0)) (hg : g < w.heap.size) : Calls Tryz.prog 45 #[.agg (St (.slice (some ⟨g, 0, none⟩) 1 1)), .bool true, .agg #[.int .i64 7, .int .i64 0, .int .i64 0, .int .u64 0, .int .u64 0, .int .u64 0, .int .i64 0], .int .u64 0] w fun e w' => e = .returned (.tuple #[.agg (St (.slice (some ⟨g, 0, none⟩) 0 0)), .agg #[.int .i64 0, .int .u64 1, .int .u64 0, .int .u64 0, .int .i64 0, .int .i64 0]]) ∧ Below w.heap.size w w' := by
  have e0_4 : ∀ o0 o1 o2 o3 : Obj, ((((w.alloc o0).alloc o1).alloc o2).alloc o3).cell? ⟨g, 0, none⟩ = some (.int .u64 1) := fun o0 o1 o2 o3 => by
    repeat (rw [World.cell?_alloc_lt _ _ ⟨g, 0, none⟩ (by simp only [World.size_alloc]; omega)])
    exact e0
  have e1_4 : ∀ o0 o1 o2 o3 : Obj, ((((w.alloc o0).alloc o1).alloc o2).alloc o3).cell? ⟨g, 1, none⟩ = some (.int .u64 0) := fun o0 o1 o2 o3 => by
    repeat (rw [World.cell?_alloc_lt _ _ ⟨g, 1, none⟩ (by simp only [World.size_alloc]; omega)])
    exact e1
  have p0 : ∀ o0 o1 o2 o3 : Obj, ((((w.alloc o0).alloc o1).alloc o2).alloc o3).heap.size = w.heap.size + 1 + 1 + 1 + 1 := fun _ _ _ _ => by simp
  have bs0 : ((((w.alloc (.cells (St (.slice (some ⟨g, 0, none⟩) 1 1)) 94)).alloc (.cells #[.int .i64 7, .int .i64 0, .int .i64 0, .int .u64 0, .int .u64 0, .int .u64 0, .int .i64 0] 33)).alloc (.cells Zst 94)).alloc (.cells #[.int .i64 0, .int .u64 0, .int .u64 0, .int .u64 0, .int .i64 0, .int .i64 0] 36)).heap[w.heap.size]? = some (.cells (St (.slice (some ⟨g, 0, none⟩) 1 1)) 94) := (by repeat (first | (refine blk_new _ _ _ _ ?_; simp; done) | (refine blk_old _ _ _ ?_ ?_; simp only [World.size_alloc]; omega)))
  go_enter Tryz.func45, Tryz.ntmps45
  go_wp2_with (first | (go_at_call 75; fail) | (refine wpList_load_row rfl 94 (.tmp 4) rfl _ rfl 94 _ _ _ bs0 Tryz.underlying94 rfl (by kernel_rfl) ?_))
  refine (line_pop_a g _ (e0_4 _ _ _ _) (e1_4 _ _ _ _) (by rw [p0]; omega)).mono ?_
  rintro e w1 ⟨rfl, hb1⟩
  have bs : w1.heap[w.heap.size]? = some (.cells (St (.slice (some ⟨g, 0, none⟩) 1 1)) 94) := blk_below hb1 (by simp only [World.size_alloc]; omega) (by repeat (first | (refine blk_new _ _ _ _ ?_; simp; done) | (refine blk_old _ _ _ ?_ ?_; simp only [World.size_alloc]; omega)))
  have cs := cell_blk bs
  have fs := frz_blk bs
  have ss := lt_blk bs
  have bc : w1.heap[w.heap.size + 1]? = some (.cells #[.int .i64 7, .int .i64 0, .int .i64 0, .int .u64 0, .int .u64 0, .int .u64 0, .int .i64 0] 33) := blk_below hb1 (by simp only [World.size_alloc]; omega) (by repeat (first | (refine blk_new _ _ _ _ ?_; simp; done) | (refine blk_old _ _ _ ?_ ?_; simp only [World.size_alloc]; omega)))
  have cc := cell_blk bc
  have fc := frz_blk bc
  have sc := lt_blk bc
  have bz : w1.heap[w.heap.size + 1 + 1]? = some (.cells Zst 94) := blk_below hb1 (by simp only [World.size_alloc]; omega) (by repeat (first | (refine blk_new _ _ _ _ ?_; simp; done) | (refine blk_old _ _ _ ?_ ?_; simp only [World.size_alloc]; omega)))
  have cz := cell_blk bz
  have fz := frz_blk bz
  have sz := lt_blk bz
  have ba : w1.heap[w.heap.size + 1 + 1 + 1]? = some (.cells #[.int .i64 0, .int .u64 0, .int .u64 0, .int .u64 0, .int .i64 0, .int .i64 0] 36) := blk_below hb1 (by simp only [World.size_alloc]; omega) (by repeat (first | (refine blk_new _ _ _ _ ?_; simp; done) | (refine blk_old _ _ _ ?_ ?_; simp only [World.size_alloc]; omega)))
  have ca := cell_blk ba
  have fa := frz_blk ba
  have sa := lt_blk ba
  clear cs cc cz ca fs fc fz fa bc bs bs0
  go_wp2_with (first | (refine wpList_store_row rfl 94 (.tmp 8) (.tmp 64) rfl _ (St (.slice (some ⟨g, 0, none⟩) 0 0)) rfl rfl 94 Zst bz (by kernel_rfl) rfl (St_one _ rfl) ?_) | (refine wpList_store_row rfl 36 (.tmp 9) (.tmp 65) rfl _ #[.int .i64 0, .int .u64 1, .int .u64 0, .int .u64 0, .int .i64 0, .int .i64 0] rfl rfl 36 #[.int .i64 0, .int .u64 0, .int .u64 0, .int .u64 0, .int .i64 0, .int .i64 0] ((setRow_other _ _ _ _ (by omega)).trans ba) (by kernel_rfl) rfl (by simp [Value.oneCell']) ?_))
  have r0 : ((w1.setRow (w.heap.size + 1 + 1) (St (.slice (some ⟨g, 0, none⟩) 0 0))).setRow (w.heap.size + 1 + 1 + 1) #[.int .i64 0, .int .u64 1, .int .u64 0, .int .u64 0, .int .i64 0, .int .i64 0]).heap[w.heap.size + 1 + 1]? = some (.cells (St (.slice (some ⟨g, 0, none⟩) 0 0)) 94) := (setRow_other _ _ _ _ (by omega)).trans (setRow_heap _ _ Zst _ 94 (0, 0) bz)
  have r1 : ((w1.setRow (w.heap.size + 1 + 1) (St (.slice (some ⟨g, 0, none⟩) 0 0))).setRow (w.heap.size + 1 + 1 + 1) #[.int .i64 0, .int .u64 1, .int .u64 0, .int .u64 0, .int .i64 0, .int .i64 0]).heap[w.heap.size + 1 + 1 + 1]? = some (.cells #[.int .i64 0, .int .u64 1, .int .u64 0, .int .u64 0, .int .i64 0, .int .i64 0] 36) := setRow_heap _ _ #[.int .i64 0, .int .u64 0, .int .u64 0, .int .u64 0, .int .i64 0, .int .i64 0] _ 36 (0, 0) ((setRow_other _ _ _ _ (by omega)).trans ba)
  have l0 := run_loadVar_row (P := Tryz.prog) _ _ _ 94 _ _ _ r0 Tryz.underlying94 rfl (by kernel_rfl)
  have l1 := run_loadVar_row (P := Tryz.prog) _ _ _ 36 _ _ _ r1 Tryz.underlying36 rfl (by kernel_rfl)
  exact bodyPost_ret (v := .tuple #[.agg (St (.slice (some ⟨g, 0, none⟩) 0 0)), .agg #[.int .i64 0, .int .u64 1, .int .u64 0, .int .u64 0, .int .i64 0, .int .i64 0]]) (by simp [results, Tryz.results45, asAddr, Act.put, l0, l1]) rfl ⟨rfl, below_setRow (below_setRow (below_next (below_alloc (below_alloc (below_alloc (below_alloc (Below.refl _ _) _) _) _) _) hb1) (by omega) _) (by omega) _⟩

set_option maxHeartbeats 4000000 in
set_option maxRecDepth 100000 in
theorem does_pop_b (g cap : Nat) (w : World) (hcap : 1 < cap) (e0 : w.cell? ⟨g, 0, none⟩ = some (.int .u64 1)) (e1 : w.cell? ⟨g, 1, none⟩ = some (.int .u64 0)) (hg : g < w.heap.size) : Calls Tryz.prog 45 #[.agg (St (.slice (some ⟨g, 0, none⟩) 1 cap)), .bool true, .agg #[.int .i64 7, .int .i64 0, .int .i64 0, .int .u64 0, .int .u64 0, .int .u64 0, .int .i64 0], .int .u64 0] w fun e w' => e = .returned (.tuple #[.agg (St (.slice (some ⟨g, 2, none⟩) 0 (cap - 1))), .agg #[.int .i64 0, .int .u64 1, .int .u64 0, .int .u64 0, .int .i64 0, .int .i64 0]]) ∧ Below w.heap.size w w' := by
  have e0_4 : ∀ o0 o1 o2 o3 : Obj, ((((w.alloc o0).alloc o1).alloc o2).alloc o3).cell? ⟨g, 0, none⟩ = some (.int .u64 1) := fun o0 o1 o2 o3 => by
    repeat (rw [World.cell?_alloc_lt _ _ ⟨g, 0, none⟩ (by simp only [World.size_alloc]; omega)])
    exact e0
  have e1_4 : ∀ o0 o1 o2 o3 : Obj, ((((w.alloc o0).alloc o1).alloc o2).alloc o3).cell? ⟨g, 1, none⟩ = some (.int .u64 0) := fun o0 o1 o2 o3 => by
    repeat (rw [World.cell?_alloc_lt _ _ ⟨g, 1, none⟩ (by simp only [World.size_alloc]; omega)])
    exact e1
  have p0 : ∀ o0 o1 o2 o3 : Obj, ((((w.alloc o0).alloc o1).alloc o2).alloc o3).heap.size = w.heap.size + 1 + 1 + 1 + 1 := fun _ _ _ _ => by simp
  have bs0 : ((((w.alloc (.cells (St (.slice (some ⟨g, 0, none⟩) 1 cap)) 94)).alloc (.cells #[.int .i64 7, .int .i64 0, .int .i64 0, .int .u64 0, .int .u64 0, .int .u64 0, .int .i64 0] 33)).alloc (.cells Zst 94)).alloc (.cells #[.int .i64 0, .int .u64 0, .int .u64 0, .int .u64 0, .int .i64 0, .int .i64 0] 36)).heap[w.heap.size]? = some (.cells (St (.slice (some ⟨g, 0, none⟩) 1 cap)) 94) := (by repeat (first | (refine blk_new _ _ _ _ ?_; simp; done) | (refine blk_old _ _ _ ?_ ?_; simp only [World.size_alloc]; omega)))
  go_enter Tryz.func45, Tryz.ntmps45
  go_wp2_with (first | (go_at_call 75; fail) | (refine wpList_load_row rfl 94 (.tmp 4) rfl _ rfl 94 _ _ _ bs0 Tryz.underlying94 rfl (by kernel_rfl) ?_))
  refine (line_pop_b g cap _ hcap (e0_4 _ _ _ _) (e1_4 _ _ _ _) (by rw [p0]; omega)).mono ?_
  rintro e w1 ⟨rfl, hb1⟩
  have bs : w1.heap[w.heap.size]? = some (.cells (St (.slice (some ⟨g, 0, none⟩) 1 cap)) 94) := blk_below hb1 (by simp only [World.size_alloc]; omega) (by repeat (first | (refine blk_new _ _ _ _ ?_; simp; done) | (refine blk_old _ _ _ ?_ ?_; simp only [World.size_alloc]; omega)))
  have cs := cell_blk bs
  have fs := frz_blk bs
  have ss := lt_blk bs
  have bc : w1.heap[w.heap.size + 1]? = some (.cells #[.int .i64 7, .int .i64 0, .int .i64 0, .int .u64 0, .int .u64 0, .int .u64 0, .int .i64 0] 33) := blk_below hb1 (by simp only [World.size_alloc]; omega) (by repeat (first | (refine blk_new _ _ _ _ ?_; simp; done) | (refine blk_old _ _ _ ?_ ?_; simp only [World.size_alloc]; omega)))
  have cc := cell_blk bc
  have fc := frz_blk bc
  have sc := lt_blk bc
  have bz : w1.heap[w.heap.size + 1 + 1]? = some (.cells Zst 94) := blk_below hb1 (by simp only [World.size_alloc]; omega) (by repeat (first | (refine blk_new _ _ _ _ ?_; simp; done) | (refine blk_old _ _ _ ?_ ?_; simp only [World.size_alloc]; omega)))
  have cz := cell_blk bz
  have fz := frz_blk bz
  have sz := lt_blk bz
  have ba : w1.heap[w.heap.size + 1 + 1 + 1]? = some (.cells #[.int .i64 0, .int .u64 0, .int .u64 0, .int .u64 0, .int .i64 0, .int .i64 0] 36) := blk_below hb1 (by simp only [World.size_alloc]; omega) (by repeat (first | (refine blk_new _ _ _ _ ?_; simp; done) | (refine blk_old _ _ _ ?_ ?_; simp only [World.size_alloc]; omega)))
  have ca := cell_blk ba
  have fa := frz_blk ba
  have sa := lt_blk ba
  clear cs cc cz ca fs fc fz fa bc bs bs0
  go_wp2_with (first | (refine wpList_store_row rfl 94 (.tmp 8) (.tmp 64) rfl _ (St (.slice (some ⟨g, 2, none⟩) 0 (cap - 1))) rfl rfl 94 Zst bz (by kernel_rfl) rfl (St_one _ rfl) ?_) | (refine wpList_store_row rfl 36 (.tmp 9) (.tmp 65) rfl _ #[.int .i64 0, .int .u64 1, .int .u64 0, .int .u64 0, .int .i64 0, .int .i64 0] rfl rfl 36 #[.int .i64 0, .int .u64 0, .int .u64 0, .int .u64 0, .int .i64 0, .int .i64 0] ((setRow_other _ _ _ _ (by omega)).trans ba) (by kernel_rfl) rfl (by simp [Value.oneCell']) ?_))
  have r0 : ((w1.setRow (w.heap.size + 1 + 1) (St (.slice (some ⟨g, 2, none⟩) 0 (cap - 1)))).setRow (w.heap.size + 1 + 1 + 1) #[.int .i64 0, .int .u64 1, .int .u64 0, .int .u64 0, .int .i64 0, .int .i64 0]).heap[w.heap.size + 1 + 1]? = some (.cells (St (.slice (some ⟨g, 2, none⟩) 0 (cap - 1))) 94) := (setRow_other _ _ _ _ (by omega)).trans (setRow_heap _ _ Zst _ 94 (0, 0) bz)
  have r1 : ((w1.setRow (w.heap.size + 1 + 1) (St (.slice (some ⟨g, 2, none⟩) 0 (cap - 1)))).setRow (w.heap.size + 1 + 1 + 1) #[.int .i64 0, .int .u64 1, .int .u64 0, .int .u64 0, .int .i64 0, .int .i64 0]).heap[w.heap.size + 1 + 1 + 1]? = some (.cells #[.int .i64 0, .int .u64 1, .int .u64 0, .int .u64 0, .int .i64 0, .int .i64 0] 36) := setRow_heap _ _ #[.int .i64 0, .int .u64 0, .int .u64 0, .int .u64 0, .int .i64 0, .int .i64 0] _ 36 (0, 0) ((setRow_other _ _ _ _ (by omega)).trans ba)
  have l0 := run_loadVar_row (P := Tryz.prog) _ _ _ 94 _ _ _ r0 Tryz.underlying94 rfl (by kernel_rfl)
  have l1 := run_loadVar_row (P := Tryz.prog) _ _ _ 36 _ _ _ r1 Tryz.underlying36 rfl (by kernel_rfl)
  exact bodyPost_ret (v := .tuple #[.agg (St (.slice (some ⟨g, 2, none⟩) 0 (cap - 1))), .agg #[.int .i64 0, .int .u64 1, .int .u64 0, .int .u64 0, .int .i64 0, .int .i64 0]]) (by simp [results, Tryz.results45, asAddr, Act.put, l0, l1]) rfl ⟨rfl, below_setRow (below_setRow (below_next (below_alloc (below_alloc (below_alloc (below_alloc (Below.refl _ _) _) _) _) _) hb1) (by omega) _) (by omega) _⟩

end Go.Proofs.YtphbnfjamclmjaaGreatDoor
