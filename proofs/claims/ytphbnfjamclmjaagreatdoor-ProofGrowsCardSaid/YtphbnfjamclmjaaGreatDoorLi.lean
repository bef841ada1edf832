import Derived.Test.YtphbnfjamclmjaaGreatDoorLh
import Derived.Deep.RegionHeld3
import Derived.Deep.CutBlock
import Derived.Deep.DeepCutAuto
namespace Go.Proofs.YtphbnfjamclmjaaGreatDoor
open Go.RowKit Go.Sort
set_option linter.unusedVariables false
set_option linter.unusedSimpArgs false

attribute [local go_sem] St_0 St_1 St_2 St_3 St_4 St_5 St_6 St_7 St_8 St_9 St_10 St_11 St_12 St_13 St_14 St_60

set_option maxHeartbeats 4000000 in
set_option maxRecDepth 100000 in
theorem told13_pop_a (g : Nat) (w : World) (e0 : w.cell? ⟨g, 0, none⟩ = some (.int .u64 1)) (e1 : w.cell? ⟨g, 1, none⟩ = some (.int .u64 0)) (hg : g < w.heap.size) : Calls Tryz.prog 34 #[.agg (St (.slice (some ⟨g, 0, none⟩) 1 1)), .int .i64 0, .agg #[.int .i64 7, .int .i64 0, .int .i64 0, .int .u64 0, .int .u64 0, .int .u64 0, .int .i64 0], .agg #[.int .i64 0, .int .u64 1, .int .u64 0, .int .u64 0, .int .i64 0, .int .i64 0]] w fun e w' => e = .returned (.tuple #[.agg (St (.slice (some ⟨g, 0, none⟩) 0 0)), .bool true]) ∧ Below w.heap.size w w' := by
  have bs0 : ((((w.alloc (.cells (St (.slice (some ⟨g, 0, none⟩) 1 1)) 94)).alloc (.cells #[.int .i64 7, .int .i64 0, .int .i64 0, .int .u64 0, .int .u64 0, .int .u64 0, .int .i64 0] 33)).alloc (.cells #[.int .i64 0, .int .u64 1, .int .u64 0, .int .u64 0, .int .i64 0, .int .i64 0] 36)).alloc (.cells Zst 94)).heap[w.heap.size]? = some (.cells (St (.slice (some ⟨g, 0, none⟩) 1 1)) 94) := (by repeat (first | (refine blk_new _ _ _ _ ?_; simp; done) | (refine blk_old _ _ _ ?_ ?_; simp only [World.size_alloc]; omega)))
  have hne : ∀ W, (binOp .neq 36 (.agg #[.int .i64 0, .int .u64 1, .int .u64 0, .int .u64 0, .int .i64 0, .int .i64 0]) (.agg #[.int .i64 0, .int .u64 1, .int .u64 0, .int .u64 0, .int .i64 0, .int .i64 0])).run Tryz.prog W = .ok (.bool false) W := fun _ => by kernel_rfl
  go_enter Tryz.func34, Tryz.ntmps34
  go_wp2_with (first | (go_at_call 44; fail) | (refine wpList_load_row rfl 94 (.tmp 4) rfl _ rfl 94 _ _ _ bs0 Tryz.underlying94 rfl (by kernel_rfl) ?_))
  refine (refusedS_pop _ _).mono ?_
  rintro e w1 ⟨rfl, hb1⟩
  have bs : w1.heap[w.heap.size]? = some (.cells (St (.slice (some ⟨g, 0, none⟩) 1 1)) 94) := blk_below hb1 (by simp only [World.size_alloc]; omega) (by repeat (first | (refine blk_new _ _ _ _ ?_; simp; done) | (refine blk_old _ _ _ ?_ ?_; simp only [World.size_alloc]; omega)))
  have cs := cell_blk bs
  have fs := frz_blk bs
  have ss := lt_blk bs
  have bc : w1.heap[w.heap.size + 1]? = some (.cells #[.int .i64 7, .int .i64 0, .int .i64 0, .int .u64 0, .int .u64 0, .int .u64 0, .int .i64 0] 33) := blk_below hb1 (by simp only [World.size_alloc]; omega) (by repeat (first | (refine blk_new _ _ _ _ ?_; simp; done) | (refine blk_old _ _ _ ?_ ?_; simp only [World.size_alloc]; omega)))
  have cc := cell_blk bc
  have fc := frz_blk bc
  have sc := lt_blk bc
  have ba : w1.heap[w.heap.size + 1 + 1]? = some (.cells #[.int .i64 0, .int .u64 1, .int .u64 0, .int .u64 0, .int .i64 0, .int .i64 0] 36) := blk_below hb1 (by simp only [World.size_alloc]; omega) (by repeat (first | (refine blk_new _ _ _ _ ?_; simp; done) | (refine blk_old _ _ _ ?_ ?_; simp only [World.size_alloc]; omega)))
  have ca := cell_blk ba
  have fa := frz_blk ba
  have sa := lt_blk ba
  have bz : w1.heap[w.heap.size + 1 + 1 + 1]? = some (.cells Zst 94) := blk_below hb1 (by simp only [World.size_alloc]; omega) (by repeat (first | (refine blk_new _ _ _ _ ?_; simp; done) | (refine blk_old _ _ _ ?_ ?_; simp only [World.size_alloc]; omega)))
  have cz := cell_blk bz
  have fz := frz_blk bz
  have sz := lt_blk bz
  clear bs0
  go_wp2_with fail
  have gs : ∀ d os off, (grow (redrawn w1 d) os).cell? ⟨w.heap.size, off, none⟩ = ((St (.slice (some ⟨g, 0, none⟩) 1 1)) : Array Value)[off]? := fun d os => cell_blk (blk_below (below_regrown w1 d os) ss bs)
  have gc : ∀ d os off, (grow (redrawn w1 d) os).cell? ⟨w.heap.size + 1, off, none⟩ = (#[.int .i64 7, .int .i64 0, .int .i64 0, .int .u64 0, .int .u64 0, .int .u64 0, .int .i64 0] : Array Value)[off]? := fun d os => cell_blk (blk_below (below_regrown w1 d os) sc bc)
  have ga : ∀ d os off, (grow (redrawn w1 d) os).cell? ⟨w.heap.size + 1 + 1, off, none⟩ = (#[.int .i64 0, .int .u64 1, .int .u64 0, .int .u64 0, .int .i64 0, .int .i64 0] : Array Value)[off]? := fun d os => cell_blk (blk_below (below_regrown w1 d os) sa ba)
  clear cs cc ca cz fs fc fa fz
  refine wp_region_quiet_below (by kernel_rfl) (by kernel_rfl) ?_
  repeat (quiet_step (exact Calls.regrown_of (level_one _)))
  refine wpQuiet_nil ?_
  intro w2 hw2
  replace hw2 := below_of_regrown hw2
  clear gs gc ga
  replace bs := blk_below hw2 ss bs
  have cs := cell_blk bs
  replace ss := lt_blk bs
  replace bc := blk_below hw2 sc bc
  have cc := cell_blk bc
  replace sc := lt_blk bc
  replace ba := blk_below hw2 sa ba
  have ca := cell_blk ba
  replace sa := lt_blk ba
  replace bz := blk_below hw2 sz bz
  have cz := cell_blk bz
  replace sz := lt_blk bz
  go_wp2_with (first | (go_at_call 48; fail) | (refine wpList_load_row rfl 94 (.tmp 4) rfl _ rfl 94 _ _ _ bs Tryz.underlying94 rfl (by kernel_rfl) ?_))
  refine (maytS_pop _ _).mono ?_
  rintro e w3 ⟨rfl, hb3⟩
  replace bs := blk_below hb3 ss bs
  replace cs := cell_blk bs
  replace ss := lt_blk bs
  replace bc := blk_below hb3 sc bc
  replace cc := cell_blk bc
  replace sc := lt_blk bc
  replace ba := blk_below hb3 sa ba
  replace ca := cell_blk ba
  replace sa := lt_blk ba
  replace bz := blk_below hb3 sz bz
  replace cz := cell_blk bz
  replace sz := lt_blk bz
  have hbw := below_next (below_next (below_next (below_alloc (below_alloc (below_alloc (below_alloc (Below.refl _ _) _) _) _) _) hb1) hw2) hb3
  clear hb1 hw2 hb3
  have HBW : Hid _ := hbw
  clear hbw
  have HNE : Hid _ := hne
  clear hne
  go_upto_region 12 with (fail)
  go_wp2_with ((refine wpList_load_row rfl 94 (.tmp 4) rfl _ rfl 94 _ _ _ bs Tryz.underlying94 rfl (by kernel_rfl) ?_))
  refine (does_pop_a g _ ((HBW.out.cell (p := ⟨g, 0, none⟩) hg).trans e0) ((HBW.out.cell (p := ⟨g, 1, none⟩) hg).trans e1) (Nat.lt_of_lt_of_le hg HBW.out.size)).mono ?_
  rintro e w4 ⟨rfl, hb4⟩
  clear cs cc ca cz
  replace bs := blk_below hb4 ss bs
  replace ss := lt_blk bs
  replace bc := blk_below hb4 sc bc
  replace sc := lt_blk bc
  replace ba := blk_below hb4 sa ba
  replace sa := lt_blk ba
  replace bz := blk_below hb4 sz bz
  replace sz := lt_blk bz
  have hbw := below_next HBW.out hb4
  clear hb4 HBW
  have hne := HNE.out
  clear HNE
  have n0 : ((w4.alloc (.cells #[.int .i64 0, .int .i64 0, .int .i64 0, .int .i64 0, .int .i64 0, .int .i64 0, .int .i64 0, .int .i64 0, .int .i64 0, .int .i64 0, .int .i64 0, .int .i64 0, .int .i64 0, .int .i64 0, .int .i64 0, .slice none 0 0, .int .i64 0, .bool false, .int .i64 0, .bool false, .int .i64 0, .bool false, .int .i64 0, .bool false, .int .i64 0, .int .u64 0, .int .i64 0, .bool false, .int .i64 0, .bool false, .int .i64 0, .bool false, .int .i64 0, .bool false, .int .i64 0, .int .u64 0, .int .i64 0, .int .u64 0, .int .u64 0, .int .i64 0, .int .u64 0, .int .u64 0, .int .i64 0, .int .u64 0, .int .u64 0, .int .i64 0, .int .u64 0, .int .u64 0, .int .i64 0, .int .u64 0, .int .u64 0, .int .i64 0, .int .u64 0, .int .u64 0, .int .i64 0, .int .u64 0, .int .u64 0, .int .i64 0, .int .u64 0, .int .u64 0, .slice none 0 0, .slice none 0 0, .slice none 0 0] 94)).alloc (.cells #[.int .i64 0, .int .u64 0, .int .u64 0, .int .u64 0, .int .i64 0, .int .i64 0] 36)).heap[w4.heap.size]? = some (.cells Zst 94) := blk_old _ _ _ (by simp) (blk_new _ _ _ _ rfl)
  have n1 : (((w4.alloc (.cells #[.int .i64 0, .int .i64 0, .int .i64 0, .int .i64 0, .int .i64 0, .int .i64 0, .int .i64 0, .int .i64 0, .int .i64 0, .int .i64 0, .int .i64 0, .int .i64 0, .int .i64 0, .int .i64 0, .int .i64 0, .slice none 0 0, .int .i64 0, .bool false, .int .i64 0, .bool false, .int .i64 0, .bool false, .int .i64 0, .bool false, .int .i64 0, .int .u64 0, .int .i64 0, .bool false, .int .i64 0, .bool false, .int .i64 0, .bool false, .int .i64 0, .bool false, .int .i64 0, .int .u64 0, .int .i64 0, .int .u64 0, .int .u64 0, .int .i64 0, .int .u64 0, .int .u64 0, .int .i64 0, .int .u64 0, .int .u64 0, .int .i64 0, .int .u64 0, .int .u64 0, .int .i64 0, .int .u64 0, .int .u64 0, .int .i64 0, .int .u64 0, .int .u64 0, .int .i64 0, .int .u64 0, .int .u64 0, .int .i64 0, .int .u64 0, .int .u64 0, .slice none 0 0, .slice none 0 0, .slice none 0 0] 94)).alloc (.cells #[.int .i64 0, .int .u64 0, .int .u64 0, .int .u64 0, .int .i64 0, .int .i64 0] 36)).setRow w4.heap.size (St (.slice (some ⟨g, 0, none⟩) 0 0))).heap[w4.heap.size + 1]? = some (.cells #[.int .i64 0, .int .u64 0, .int .u64 0, .int .u64 0, .int .i64 0, .int .i64 0] 36) := (setRow_other _ _ _ _ (by omega)).trans (blk_new _ _ _ _ (by simp))
  replace bs : ((((w4.alloc (.cells #[.int .i64 0, .int .i64 0, .int .i64 0, .int .i64 0, .int .i64 0, .int .i64 0, .int .i64 0, .int .i64 0, .int .i64 0, .int .i64 0, .int .i64 0, .int .i64 0, .int .i64 0, .int .i64 0, .int .i64 0, .slice none 0 0, .int .i64 0, .bool false, .int .i64 0, .bool false, .int .i64 0, .bool false, .int .i64 0, .bool false, .int .i64 0, .int .u64 0, .int .i64 0, .bool false, .int .i64 0, .bool false, .int .i64 0, .bool false, .int .i64 0, .bool false, .int .i64 0, .int .u64 0, .int .i64 0, .int .u64 0, .int .u64 0, .int .i64 0, .int .u64 0, .int .u64 0, .int .i64 0, .int .u64 0, .int .u64 0, .int .i64 0, .int .u64 0, .int .u64 0, .int .i64 0, .int .u64 0, .int .u64 0, .int .i64 0, .int .u64 0, .int .u64 0, .int .i64 0, .int .u64 0, .int .u64 0, .int .i64 0, .int .u64 0, .int .u64 0, .slice none 0 0, .slice none 0 0, .slice none 0 0] 94)).alloc (.cells #[.int .i64 0, .int .u64 0, .int .u64 0, .int .u64 0, .int .i64 0, .int .i64 0] 36)).setRow w4.heap.size (St (.slice (some ⟨g, 0, none⟩) 0 0))).setRow (w4.heap.size + 1) #[.int .i64 0, .int .u64 1, .int .u64 0, .int .u64 0, .int .i64 0, .int .i64 0]).heap[w.heap.size]? = some (.cells (St (.slice (some ⟨g, 0, none⟩) 1 1)) 94) := (setRow_other _ _ _ _ (by omega)).trans ((setRow_other _ _ _ _ (by omega)).trans (blk_old _ _ _ (by simp; omega) (blk_old _ _ _ ss bs)))
  replace bc : ((((w4.alloc (.cells #[.int .i64 0, .int .i64 0, .int .i64 0, .int .i64 0, .int .i64 0, .int .i64 0, .int .i64 0, .int .i64 0, .int .i64 0, .int .i64 0, .int .i64 0, .int .i64 0, .int .i64 0, .int .i64 0, .int .i64 0, .slice none 0 0, .int .i64 0, .bool false, .int .i64 0, .bool false, .int .i64 0, .bool false, .int .i64 0, .bool false, .int .i64 0, .int .u64 0, .int .i64 0, .bool false, .int .i64 0, .bool false, .int .i64 0, .bool false, .int .i64 0, .bool false, .int .i64 0, .int .u64 0, .int .i64 0, .int .u64 0, .int .u64 0, .int .i64 0, .int .u64 0, .int .u64 0, .int .i64 0, .int .u64 0, .int .u64 0, .int .i64 0, .int .u64 0, .int .u64 0, .int .i64 0, .int .u64 0, .int .u64 0, .int .i64 0, .int .u64 0, .int .u64 0, .int .i64 0, .int .u64 0, .int .u64 0, .int .i64 0, .int .u64 0, .int .u64 0, .slice none 0 0, .slice none 0 0, .slice none 0 0] 94)).alloc (.cells #[.int .i64 0, .int .u64 0, .int .u64 0, .int .u64 0, .int .i64 0, .int .i64 0] 36)).setRow w4.heap.size (St (.slice (some ⟨g, 0, none⟩) 0 0))).setRow (w4.heap.size + 1) #[.int .i64 0, .int .u64 1, .int .u64 0, .int .u64 0, .int .i64 0, .int .i64 0]).heap[w.heap.size + 1]? = some (.cells #[.int .i64 7, .int .i64 0, .int .i64 0, .int .u64 0, .int .u64 0, .int .u64 0, .int .i64 0] 33) := (setRow_other _ _ _ _ (by omega)).trans ((setRow_other _ _ _ _ (by omega)).trans (blk_old _ _ _ (by simp; omega) (blk_old _ _ _ sc bc)))
  replace ba : ((((w4.alloc (.cells #[.int .i64 0, .int .i64 0, .int .i64 0, .int .i64 0, .int .i64 0, .int .i64 0, .int .i64 0, .int .i64 0, .int .i64 0, .int .i64 0, .int .i64 0, .int .i64 0, .int .i64 0, .int .i64 0, .int .i64 0, .slice none 0 0, .int .i64 0, .bool false, .int .i64 0, .bool false, .int .i64 0, .bool false, .int .i64 0, .bool false, .int .i64 0, .int .u64 0, .int .i64 0, .bool false, .int .i64 0, .bool false, .int .i64 0, .bool false, .int .i64 0, .bool false, .int .i64 0, .int .u64 0, .int .i64 0, .int .u64 0, .int .u64 0, .int .i64 0, .int .u64 0, .int .u64 0, .int .i64 0, .int .u64 0, .int .u64 0, .int .i64 0, .int .u64 0, .int .u64 0, .int .i64 0, .int .u64 0, .int .u64 0, .int .i64 0, .int .u64 0, .int .u64 0, .int .i64 0, .int .u64 0, .int .u64 0, .int .i64 0, .int .u64 0, .int .u64 0, .slice none 0 0, .slice none 0 0, .slice none 0 0] 94)).alloc (.cells #[.int .i64 0, .int .u64 0, .int .u64 0, .int .u64 0, .int .i64 0, .int .i64 0] 36)).setRow w4.heap.size (St (.slice (some ⟨g, 0, none⟩) 0 0))).setRow (w4.heap.size + 1) #[.int .i64 0, .int .u64 1, .int .u64 0, .int .u64 0, .int .i64 0, .int .i64 0]).heap[w.heap.size + 1 + 1]? = some (.cells #[.int .i64 0, .int .u64 1, .int .u64 0, .int .u64 0, .int .i64 0, .int .i64 0] 36) := (setRow_other _ _ _ _ (by omega)).trans ((setRow_other _ _ _ _ (by omega)).trans (blk_old _ _ _ (by simp; omega) (blk_old _ _ _ sa ba)))
  replace bz : ((((w4.alloc (.cells #[.int .i64 0, .int .i64 0, .int .i64 0, .int .i64 0, .int .i64 0, .int .i64 0, .int .i64 0, .int .i64 0, .int .i64 0, .int .i64 0, .int .i64 0, .int .i64 0, .int .i64 0, .int .i64 0, .int .i64 0, .slice none 0 0, .int .i64 0, .bool false, .int .i64 0, .bool false, .int .i64 0, .bool false, .int .i64 0, .bool false, .int .i64 0, .int .u64 0, .int .i64 0, .bool false, .int .i64 0, .bool false, .int .i64 0, .bool false, .int .i64 0, .bool false, .int .i64 0, .int .u64 0, .int .i64 0, .int .u64 0, .int .u64 0, .int .i64 0, .int .u64 0, .int .u64 0, .int .i64 0, .int .u64 0, .int .u64 0, .int .i64 0, .int .u64 0, .int .u64 0, .int .i64 0, .int .u64 0, .int .u64 0, .int .i64 0, .int .u64 0, .int .u64 0, .int .i64 0, .int .u64 0, .int .u64 0, .int .i64 0, .int .u64 0, .int .u64 0, .slice none 0 0, .slice none 0 0, .slice none 0 0] 94)).alloc (.cells #[.int .i64 0, .int .u64 0, .int .u64 0, .int .u64 0, .int .i64 0, .int .i64 0] 36)).setRow w4.heap.size (St (.slice (some ⟨g, 0, none⟩) 0 0))).setRow (w4.heap.size + 1) #[.int .i64 0, .int .u64 1, .int .u64 0, .int .u64 0, .int .i64 0, .int .i64 0]).heap[w.heap.size + 1 + 1 + 1]? = some (.cells Zst 94) := (setRow_other _ _ _ _ (by omega)).trans ((setRow_other _ _ _ _ (by omega)).trans (blk_old _ _ _ (by simp; omega) (blk_old _ _ _ sz bz)))
  have p12 : ((((w4.alloc (.cells #[.int .i64 0, .int .i64 0, .int .i64 0, .int .i64 0, .int .i64 0, .int .i64 0, .int .i64 0, .int .i64 0, .int .i64 0, .int .i64 0, .int .i64 0, .int .i64 0, .int .i64 0, .int .i64 0, .int .i64 0, .slice none 0 0, .int .i64 0, .bool false, .int .i64 0, .bool false, .int .i64 0, .bool false, .int .i64 0, .bool false, .int .i64 0, .int .u64 0, .int .i64 0, .bool false, .int .i64 0, .bool false, .int .i64 0, .bool false, .int .i64 0, .bool false, .int .i64 0, .int .u64 0, .int .i64 0, .int .u64 0, .int .u64 0, .int .i64 0, .int .u64 0, .int .u64 0, .int .i64 0, .int .u64 0, .int .u64 0, .int .i64 0, .int .u64 0, .int .u64 0, .int .i64 0, .int .u64 0, .int .u64 0, .int .i64 0, .int .u64 0, .int .u64 0, .int .i64 0, .int .u64 0, .int .u64 0, .int .i64 0, .int .u64 0, .int .u64 0, .slice none 0 0, .slice none 0 0, .slice none 0 0] 94)).alloc (.cells #[.int .i64 0, .int .u64 0, .int .u64 0, .int .u64 0, .int .i64 0, .int .i64 0] 36)).setRow w4.heap.size (St (.slice (some ⟨g, 0, none⟩) 0 0))).setRow (w4.heap.size + 1) #[.int .i64 0, .int .u64 1, .int .u64 0, .int .u64 0, .int .i64 0, .int .i64 0]).heap[w4.heap.size]? = some (.cells (St (.slice (some ⟨g, 0, none⟩) 0 0)) 94) := (setRow_other _ _ _ _ (by omega)).trans (setRow_heap _ _ Zst _ 94 (0, 0) n0)
  have p13 : ((((w4.alloc (.cells #[.int .i64 0, .int .i64 0, .int .i64 0, .int .i64 0, .int .i64 0, .int .i64 0, .int .i64 0, .int .i64 0, .int .i64 0, .int .i64 0, .int .i64 0, .int .i64 0, .int .i64 0, .int .i64 0, .int .i64 0, .slice none 0 0, .int .i64 0, .bool false, .int .i64 0, .bool false, .int .i64 0, .bool false, .int .i64 0, .bool false, .int .i64 0, .int .u64 0, .int .i64 0, .bool false, .int .i64 0, .bool false, .int .i64 0, .bool false, .int .i64 0, .bool false, .int .i64 0, .int .u64 0, .int .i64 0, .int .u64 0, .int .u64 0, .int .i64 0, .int .u64 0, .int .u64 0, .int .i64 0, .int .u64 0, .int .u64 0, .int .i64 0, .int .u64 0, .int .u64 0, .int .i64 0, .int .u64 0, .int .u64 0, .int .i64 0, .int .u64 0, .int .u64 0, .int .i64 0, .int .u64 0, .int .u64 0, .int .i64 0, .int .u64 0, .int .u64 0, .slice none 0 0, .slice none 0 0, .slice none 0 0] 94)).alloc (.cells #[.int .i64 0, .int .u64 0, .int .u64 0, .int .u64 0, .int .i64 0, .int .i64 0] 36)).setRow w4.heap.size (St (.slice (some ⟨g, 0, none⟩) 0 0))).setRow (w4.heap.size + 1) #[.int .i64 0, .int .u64 1, .int .u64 0, .int .u64 0, .int .i64 0, .int .i64 0]).heap[w4.heap.size + 1]? = some (.cells #[.int .i64 0, .int .u64 1, .int .u64 0, .int .u64 0, .int .i64 0, .int .i64 0] 36) := setRow_heap _ _ #[.int .i64 0, .int .u64 0, .int .u64 0, .int .u64 0, .int .i64 0, .int .i64 0] _ 36 (0, 0) n1
  go_wp2_with (first | (refine wpList_store_row rfl 94 (.tmp 12) (.tmp 77) rfl _ (St (.slice (some ⟨g, 0, none⟩) 0 0)) rfl rfl 94 Zst n0 (by kernel_rfl) rfl (St_one _ rfl) ?_) | (refine wpList_store_row rfl 36 (.tmp 13) (.tmp 78) rfl _ #[.int .i64 0, .int .u64 1, .int .u64 0, .int .u64 0, .int .i64 0, .int .i64 0] rfl rfl 36 #[.int .i64 0, .int .u64 0, .int .u64 0, .int .u64 0, .int .i64 0, .int .i64 0] n1 (by kernel_rfl) rfl (by simp [Value.oneCell']) ?_) | (refine wpList_load_row rfl 36 (.tmp 7) rfl _ rfl 36 _ _ _ ba Tryz.underlying36 rfl (by kernel_rfl) ?_) | (refine wpList_load_row rfl 36 (.tmp 13) rfl _ rfl 36 _ _ _ p13 Tryz.underlying36 rfl (by kernel_rfl) ?_) | (refine wpList_load_row rfl 94 (.tmp 12) rfl _ rfl 94 _ _ _ p12 Tryz.underlying94 rfl (by kernel_rfl) ?_) | (refine wpList_store_row rfl 94 (.tmp 8) (.tmp 83) rfl _ (St (.slice (some ⟨g, 0, none⟩) 0 0)) rfl rfl 94 Zst bz (by kernel_rfl) rfl (St_one _ rfl) ?_))
  have r0 : (((((w4.alloc (.cells #[.int .i64 0, .int .i64 0, .int .i64 0, .int .i64 0, .int .i64 0, .int .i64 0, .int .i64 0, .int .i64 0, .int .i64 0, .int .i64 0, .int .i64 0, .int .i64 0, .int .i64 0, .int .i64 0, .int .i64 0, .slice none 0 0, .int .i64 0, .bool false, .int .i64 0, .bool false, .int .i64 0, .bool false, .int .i64 0, .bool false, .int .i64 0, .int .u64 0, .int .i64 0, .bool false, .int .i64 0, .bool false, .int .i64 0, .bool false, .int .i64 0, .bool false, .int .i64 0, .int .u64 0, .int .i64 0, .int .u64 0, .int .u64 0, .int .i64 0, .int .u64 0, .int .u64 0, .int .i64 0, .int .u64 0, .int .u64 0, .int .i64 0, .int .u64 0, .int .u64 0, .int .i64 0, .int .u64 0, .int .u64 0, .int .i64 0, .int .u64 0, .int .u64 0, .int .i64 0, .int .u64 0, .int .u64 0, .int .i64 0, .int .u64 0, .int .u64 0, .slice none 0 0, .slice none 0 0, .slice none 0 0] 94)).alloc (.cells #[.int .i64 0, .int .u64 0, .int .u64 0, .int .u64 0, .int .i64 0, .int .i64 0] 36)).setRow w4.heap.size (St (.slice (some ⟨g, 0, none⟩) 0 0))).setRow (w4.heap.size + 1) #[.int .i64 0, .int .u64 1, .int .u64 0, .int .u64 0, .int .i64 0, .int .i64 0]).setRow (w.heap.size + 1 + 1 + 1) (St (.slice (some ⟨g, 0, none⟩) 0 0))).heap[w.heap.size + 1 + 1 + 1]? = some (.cells (St (.slice (some ⟨g, 0, none⟩) 0 0)) 94) := setRow_heap _ _ Zst _ 94 (0, 0) bz
  have l0 := run_loadVar_row (P := Tryz.prog) _ _ _ 94 _ _ _ r0 Tryz.underlying94 rfl (by kernel_rfl)
  exact bodyPost_ret (v := .tuple #[.agg (St (.slice (some ⟨g, 0, none⟩) 0 0)), .bool true]) (by simp [results, Tryz.results34, asAddr, Act.put, l0]) rfl ⟨rfl, below_setRow (below_setRow (below_setRow (below_alloc (below_alloc hbw _) _) hbw.size _) (Nat.le_succ_of_le hbw.size) _) (by omega) _⟩

set_option maxHeartbeats 4000000 in
set_option maxRecDepth 100000 in
theorem told13_pop_b (g cap : Nat) (w : World) (hcap : 1 < cap) (e0 : w.cell? ⟨g, 0, none⟩ = some (.int .u64 1)) (e1 : w.cell? ⟨g, 1, none⟩ = some (.int .u64 0)) (hg : g < w.heap.size) : Calls Tryz.prog 34 #[.agg (St (.slice (some ⟨g, 0, none⟩) 1 cap)), .int .i64 0, .agg #[.int .i64 7, .int .i64 0, .int .i64 0, .int .u64 0, .int .u64 0, .int .u64 0, .int .i64 0], .agg #[.int .i64 0, .int .u64 1, .int .u64 0, .int .u64 0, .int .i64 0, .int .i64 0]] w fun e w' => e = .returned (.tuple #[.agg (St (.slice (some ⟨g, 2, none⟩) 0 (cap - 1))), .bool true]) ∧ Below w.heap.size w w' := by
  have bs0 : ((((w.alloc (.cells (St (.slice (some ⟨g, 0, none⟩) 1 cap)) 94)).alloc (.cells #[.int .i64 7, .int .i64 0, .int .i64 0, .int .u64 0, .int .u64 0, .int .u64 0, .int .i64 0] 33)).alloc (.cells #[.int .i64 0, .int .u64 1, .int .u64 0, .int .u64 0, .int .i64 0, .int .i64 0] 36)).alloc (.cells Zst 94)).heap[w.heap.size]? = some (.cells (St (.slice (some ⟨g, 0, none⟩) 1 cap)) 94) := (by repeat (first | (refine blk_new _ _ _ _ ?_; simp; done) | (refine blk_old _ _ _ ?_ ?_; simp only [World.size_alloc]; omega)))
  have hne : ∀ W, (binOp .neq 36 (.agg #[.int .i64 0, .int .u64 1, .int .u64 0, .int .u64 0, .int .i64 0, .int .i64 0]) (.agg #[.int .i64 0, .int .u64 1, .int .u64 0, .int .u64 0, .int .i64 0, .int .i64 0])).run Tryz.prog W = .ok (.bool false) W := fun _ => by kernel_rfl
  go_enter Tryz.func34, Tryz.ntmps34
  go_wp2_with (first | (go_at_call 44; fail) | (refine wpList_load_row rfl 94 (.tmp 4) rfl _ rfl 94 _ _ _ bs0 Tryz.underlying94 rfl (by kernel_rfl) ?_))
  refine (refusedS_pop _ _).mono ?_
  rintro e w1 ⟨rfl, hb1⟩
  have bs : w1.heap[w.heap.size]? = some (.cells (St (.slice (some ⟨g, 0, none⟩) 1 cap)) 94) := blk_below hb1 (by simp only [World.size_alloc]; omega) (by repeat (first | (refine blk_new _ _ _ _ ?_; simp; done) | (refine blk_old _ _ _ ?_ ?_; simp only [World.size_alloc]; omega)))
  have cs := cell_blk bs
  have fs := frz_blk bs
  have ss := lt_blk bs
  have bc : w1.heap[w.heap.size + 1]? = some (.cells #[.int .i64 7, .int .i64 0, .int .i64 0, .int .u64 0, .int .u64 0, .int .u64 0, .int .i64 0] 33) := blk_below hb1 (by simp only [World.size_alloc]; omega) (by repeat (first | (refine blk_new _ _ _ _ ?_; simp; done) | (refine blk_old _ _ _ ?_ ?_; simp only [World.size_alloc]; omega)))
  have cc := cell_blk bc
  have fc := frz_blk bc
  have sc := lt_blk bc
  have ba : w1.heap[w.heap.size + 1 + 1]? = some (.cells #[.int .i64 0, .int .u64 1, .int .u64 0, .int .u64 0, .int .i64 0, .int .i64 0] 36) := blk_below hb1 (by simp only [World.size_alloc]; omega) (by repeat (first | (refine blk_new _ _ _ _ ?_; simp; done) | (refine blk_old _ _ _ ?_ ?_; simp only [World.size_alloc]; omega)))
  have ca := cell_blk ba
  have fa := frz_blk ba
  have sa := lt_blk ba
  have bz : w1.heap[w.heap.size + 1 + 1 + 1]? = some (.cells Zst 94) := blk_below hb1 (by simp only [World.size_alloc]; omega) (by repeat (first | (refine blk_new _ _ _ _ ?_; simp; done) | (refine blk_old _ _ _ ?_ ?_; simp only [World.size_alloc]; omega)))
  have cz := cell_blk bz
  have fz := frz_blk bz
  have sz := lt_blk bz
  clear bs0
  go_wp2_with fail
  have gs : ∀ d os off, (grow (redrawn w1 d) os).cell? ⟨w.heap.size, off, none⟩ = ((St (.slice (some ⟨g, 0, none⟩) 1 cap)) : Array Value)[off]? := fun d os => cell_blk (blk_below (below_regrown w1 d os) ss bs)
  have gc : ∀ d os off, (grow (redrawn w1 d) os).cell? ⟨w.heap.size + 1, off, none⟩ = (#[.int .i64 7, .int .i64 0, .int .i64 0, .int .u64 0, .int .u64 0, .int .u64 0, .int .i64 0] : Array Value)[off]? := fun d os => cell_blk (blk_below (below_regrown w1 d os) sc bc)
  have ga : ∀ d os off, (grow (redrawn w1 d) os).cell? ⟨w.heap.size + 1 + 1, off, none⟩ = (#[.int .i64 0, .int .u64 1, .int .u64 0, .int .u64 0, .int .i64 0, .int .i64 0] : Array Value)[off]? := fun d os => cell_blk (blk_below (below_regrown w1 d os) sa ba)
  clear cs cc ca cz fs fc fa fz
  refine wp_region_quiet_below (by kernel_rfl) (by kernel_rfl) ?_
  repeat (quiet_step (exact Calls.regrown_of (level_one _)))
  refine wpQuiet_nil ?_
  intro w2 hw2
  replace hw2 := below_of_regrown hw2
  clear gs gc ga
  replace bs := blk_below hw2 ss bs
  have cs := cell_blk bs
  replace ss := lt_blk bs
  replace bc := blk_below hw2 sc bc
  have cc := cell_blk bc
  replace sc := lt_blk bc
  replace ba := blk_below hw2 sa ba
  have ca := cell_blk ba
  replace sa := lt_blk ba
  replace bz := blk_below hw2 sz bz
  have cz := cell_blk bz
  replace sz := lt_blk bz
  go_wp2_with (first | (go_at_call 48; fail) | (refine wpList_load_row rfl 94 (.tmp 4) rfl _ rfl 94 _ _ _ bs Tryz.underlying94 rfl (by kernel_rfl) ?_))
  refine (maytS_pop _ _).mono ?_
  rintro e w3 ⟨rfl, hb3⟩
  replace bs := blk_below hb3 ss bs
  replace cs := cell_blk bs
  replace ss := lt_blk bs
  replace bc := blk_below hb3 sc bc
  replace cc := cell_blk bc
  replace sc := lt_blk bc
  replace ba := blk_below hb3 sa ba
  replace ca := cell_blk ba
  replace sa := lt_blk ba
  replace bz := blk_below hb3 sz bz
  replace cz := cell_blk bz
  replace sz := lt_blk bz
  have hbw := below_next (below_next (below_next (below_alloc (below_alloc (below_alloc (below_alloc (Below.refl _ _) _) _) _) _) hb1) hw2) hb3
  clear hb1 hw2 hb3
  have HBW : Hid _ := hbw
  clear hbw
  have HNE : Hid _ := hne
  clear hne
  go_upto_region 12 with (fail)
  go_wp2_with ((refine wpList_load_row rfl 94 (.tmp 4) rfl _ rfl 94 _ _ _ bs Tryz.underlying94 rfl (by kernel_rfl) ?_))
  refine (does_pop_b g cap _ hcap ((HBW.out.cell (p := ⟨g, 0, none⟩) hg).trans e0) ((HBW.out.cell (p := ⟨g, 1, none⟩) hg).trans e1) (Nat.lt_of_lt_of_le hg HBW.out.size)).mono ?_
  rintro e w4 ⟨rfl, hb4⟩
  clear cs cc ca cz
  replace bs := blk_below hb4 ss bs
  replace ss := lt_blk bs
  replace bc := blk_below hb4 sc bc
  replace sc := lt_blk bc
  replace ba := blk_below hb4 sa ba
  replace sa := lt_blk ba
  replace bz := blk_below hb4 sz bz
  replace sz := lt_blk bz
  have hbw := below_next HBW.out hb4
  clear hb4 HBW
  have hne := HNE.out
  clear HNE
  have n0 : ((w4.alloc (.cells #[.int .i64 0, .int .i64 0, .int .i64 0, .int .i64 0, .int .i64 0, .int .i64 0, .int .i64 0, .int .i64 0, .int .i64 0, .int .i64 0, .int .i64 0, .int .i64 0, .int .i64 0, .int .i64 0, .int .i64 0, .slice none 0 0, .int .i64 0, .bool false, .int .i64 0, .bool false, .int .i64 0, .bool false, .int .i64 0, .bool false, .int .i64 0, .int .u64 0, .int .i64 0, .bool false, .int .i64 0, .bool false, .int .i64 0, .bool false, .int .i64 0, .bool false, .int .i64 0, .int .u64 0, .int .i64 0, .int .u64 0, .int .u64 0, .int .i64 0, .int .u64 0, .int .u64 0, .int .i64 0, .int .u64 0, .int .u64 0, .int .i64 0, .int .u64 0, .int .u64 0, .int .i64 0, .int .u64 0, .int .u64 0, .int .i64 0, .int .u64 0, .int .u64 0, .int .i64 0, .int .u64 0, .int .u64 0, .int .i64 0, .int .u64 0, .int .u64 0, .slice none 0 0, .slice none 0 0, .slice none 0 0] 94)).alloc (.cells #[.int .i64 0, .int .u64 0, .int .u64 0, .int .u64 0, .int .i64 0, .int .i64 0] 36)).heap[w4.heap.size]? = some (.cells Zst 94) := blk_old _ _ _ (by simp) (blk_new _ _ _ _ rfl)
  have n1 : (((w4.alloc (.cells #[.int .i64 0, .int .i64 0, .int .i64 0, .int .i64 0, .int .i64 0, .int .i64 0, .int .i64 0, .int .i64 0, .int .i64 0, .int .i64 0, .int .i64 0, .int .i64 0, .int .i64 0, .int .i64 0, .int .i64 0, .slice none 0 0, .int .i64 0, .bool false, .int .i64 0, .bool false, .int .i64 0, .bool false, .int .i64 0, .bool false, .int .i64 0, .int .u64 0, .int .i64 0, .bool false, .int .i64 0, .bool false, .int .i64 0, .bool false, .int .i64 0, .bool false, .int .i64 0, .int .u64 0, .int .i64 0, .int .u64 0, .int .u64 0, .int .i64 0, .int .u64 0, .int .u64 0, .int .i64 0, .int .u64 0, .int .u64 0, .int .i64 0, .int .u64 0, .int .u64 0, .int .i64 0, .int .u64 0, .int .u64 0, .int .i64 0, .int .u64 0, .int .u64 0, .int .i64 0, .int .u64 0, .int .u64 0, .int .i64 0, .int .u64 0, .int .u64 0, .slice none 0 0, .slice none 0 0, .slice none 0 0] 94)).alloc (.cells #[.int .i64 0, .int .u64 0, .int .u64 0, .int .u64 0, .int .i64 0, .int .i64 0] 36)).setRow w4.heap.size (St (.slice (some ⟨g, 2, none⟩) 0 (cap - 1)))).heap[w4.heap.size + 1]? = some (.cells #[.int .i64 0, .int .u64 0, .int .u64 0, .int .u64 0, .int .i64 0, .int .i64 0] 36) := (setRow_other _ _ _ _ (by omega)).trans (blk_new _ _ _ _ (by simp))
  replace bs : ((((w4.alloc (.cells #[.int .i64 0, .int .i64 0, .int .i64 0, .int .i64 0, .int .i64 0, .int .i64 0, .int .i64 0, .int .i64 0, .int .i64 0, .int .i64 0, .int .i64 0, .int .i64 0, .int .i64 0, .int .i64 0, .int .i64 0, .slice none 0 0, .int .i64 0, .bool false, .int .i64 0, .bool false, .int .i64 0, .bool false, .int .i64 0, .bool false, .int .i64 0, .int .u64 0, .int .i64 0, .bool false, .int .i64 0, .bool false, .int .i64 0, .bool false, .int .i64 0, .bool false, .int .i64 0, .int .u64 0, .int .i64 0, .int .u64 0, .int .u64 0, .int .i64 0, .int .u64 0, .int .u64 0, .int .i64 0, .int .u64 0, .int .u64 0, .int .i64 0, .int .u64 0, .int .u64 0, .int .i64 0, .int .u64 0, .int .u64 0, .int .i64 0, .int .u64 0, .int .u64 0, .int .i64 0, .int .u64 0, .int .u64 0, .int .i64 0, .int .u64 0, .int .u64 0, .slice none 0 0, .slice none 0 0, .slice none 0 0] 94)).alloc (.cells #[.int .i64 0, .int .u64 0, .int .u64 0, .int .u64 0, .int .i64 0, .int .i64 0] 36)).setRow w4.heap.size (St (.slice (some ⟨g, 2, none⟩) 0 (cap - 1)))).setRow (w4.heap.size + 1) #[.int .i64 0, .int .u64 1, .int .u64 0, .int .u64 0, .int .i64 0, .int .i64 0]).heap[w.heap.size]? = some (.cells (St (.slice (some ⟨g, 0, none⟩) 1 cap)) 94) := (setRow_other _ _ _ _ (by omega)).trans ((setRow_other _ _ _ _ (by omega)).trans (blk_old _ _ _ (by simp; omega) (blk_old _ _ _ ss bs)))
  replace bc : ((((w4.alloc (.cells #[.int .i64 0, .int .i64 0, .int .i64 0, .int .i64 0, .int .i64 0, .int .i64 0, .int .i64 0, .int .i64 0, .int .i64 0, .int .i64 0, .int .i64 0, .int .i64 0, .int .i64 0, .int .i64 0, .int .i64 0, .slice none 0 0, .int .i64 0, .bool false, .int .i64 0, .bool false, .int .i64 0, .bool false, .int .i64 0, .bool false, .int .i64 0, .int .u64 0, .int .i64 0, .bool false, .int .i64 0, .bool false, .int .i64 0, .bool false, .int .i64 0, .bool false, .int .i64 0, .int .u64 0, .int .i64 0, .int .u64 0, .int .u64 0, .int .i64 0, .int .u64 0, .int .u64 0, .int .i64 0, .int .u64 0, .int .u64 0, .int .i64 0, .int .u64 0, .int .u64 0, .int .i64 0, .int .u64 0, .int .u64 0, .int .i64 0, .int .u64 0, .int .u64 0, .int .i64 0, .int .u64 0, .int .u64 0, .int .i64 0, .int .u64 0, .int .u64 0, .slice none 0 0, .slice none 0 0, .slice none 0 0] 94)).alloc (.cells #[.int .i64 0, .int .u64 0, .int .u64 0, .int .u64 0, .int .i64 0, .int .i64 0] 36)).setRow w4.heap.size (St (.slice (some ⟨g, 2, none⟩) 0 (cap - 1)))).setRow (w4.heap.size + 1) #[.int .i64 0, .int .u64 1, .int .u64 0, .int .u64 0, .int .i64 0, .int .i64 0]).heap[w.heap.size + 1]? = some (.cells #[.int .i64 7, .int .i64 0, .int .i64 0, .int .u64 0, .int .u64 0, .int .u64 0, .int .i64 0] 33) := (setRow_other _ _ _ _ (by omega)).trans ((setRow_other _ _ _ _ (by omega)).trans (blk_old _ _ _ (by simp; omega) (blk_old _ _ _ sc bc)))
  replace ba : ((((w4.alloc (.cells #[.int .i64 0, .int .i64 0, .int .i64 0, .int .i64 0, .int .i64 0, .int .i64 0, .int .i64 0, .int .i64 0, .int .i64 0, .int .i64 0, .int .i64 0, .int .i64 0, .int .i64 0, .int .i64 0, .int .i64 0, .slice none 0 0, .int .i64 0, .bool false, .int .i64 0, .bool false, .int .i64 0, .bool false, .int .i64 0, .bool false, .int .i64 0, .int .u64 0, .int .i64 0, .bool false, .int .i64 0, .bool false, .int .i64 0, .bool false, .int .i64 0, .bool false, .int .i64 0, .int .u64 0, .int .i64 0, .int .u64 0, .int .u64 0, .int .i64 0, .int .u64 0, .int .u64 0, .int .i64 0, .int .u64 0, .int .u64 0, .int .i64 0, .int .u64 0, .int .u64 0, .int .i64 0, .int .u64 0, .int .u64 0, .int .i64 0, .int .u64 0, .int .u64 0, .int .i64 0, .int .u64 0, .int .u64 0, .int .i64 0, .int .u64 0, .int .u64 0, .slice none 0 0, .slice none 0 0, .slice none 0 0] 94)).alloc (.cells #[.int .i64 0, .int .u64 0, .int .u64 0, .int .u64 0, .int .i64 0, .int .i64 0] 36)).setRow w4.heap.size (St (.slice (some ⟨g, 2, none⟩) 0 (cap - 1)))).setRow (w4.heap.size + 1) #[.int .i64 0, .int .u64 1, .int .u64 0, .int .u64 0, .int .i64 0, .int .i64 0]).heap[w.heap.size + 1 + 1]? = some (.cells #[.int .i64 0, .int .u64 1, .int .u64 0, .int .u64 0, .int .i64 0, .int .i64 0] 36) := (setRow_other _ _ _ _ (by omega)).trans ((setRow_other _ _ _ _ (by omega)).trans (blk_old _ _ _ (by simp; omega) (blk_old _ _ _ sa ba)))
  replace bz : ((((w4.alloc (.cells #[.int .i64 0, .int .i64 0, .int .i64 0, .int .i64 0, .int .i64 0, .int .i64 0, .int .i64 0, .int .i64 0, .int .i64 0, .int .i64 0, .int .i64 0, .int .i64 0, .int .i64 0, .int .i64 0, .int .i64 0, .slice none 0 0, .int .i64 0, .bool false, .int .i64 0, .bool false, .int .i64 0, .bool false, .int .i64 0, .bool false, .int .i64 0, .int .u64 0, .int .i64 0, .bool false, .int .i64 0, .bool false, .int .i64 0, .bool false, .int .i64 0, .bool false, .int .i64 0, .int .u64 0, .int .i64 0, .int .u64 0, .int .u64 0, .int .i64 0, .int .u64 0, .int .u64 0, .int .i64 0, .int .u64 0, .int .u64 0, .int .i64 0, .int .u64 0, .int .u64 0, .int .i64 0, .int .u64 0, .int .u64 0, .int .i64 0, .int .u64 0, .int .u64 0, .int .i64 0, .int .u64 0, .int .u64 0, .int .i64 0, .int .u64 0, .int .u64 0, .slice none 0 0, .slice none 0 0, .slice none 0 0] 94)).alloc (.cells #[.int .i64 0, .int .u64 0, .int .u64 0, .int .u64 0, .int .i64 0, .int .i64 0] 36)).setRow w4.heap.size (St (.slice (some ⟨g, 2, none⟩) 0 (cap - 1)))).setRow (w4.heap.size + 1) #[.int .i64 0, .int .u64 1, .int .u64 0, .int .u64 0, .int .i64 0, .int .i64 0]).heap[w.heap.size + 1 + 1 + 1]? = some (.cells Zst 94) := (setRow_other _ _ _ _ (by omega)).trans ((setRow_other _ _ _ _ (by omega)).trans (blk_old _ _ _ (by simp; omega) (blk_old _ _ _ sz bz)))
  have p12 : ((((w4.alloc (.cells #[.int .i64 0, .int .i64 0, .int .i64 0, .int .i64 0, .int .i64 0, .int .i64 0, .int .i64 0, .int .i64 0, .int .i64 0, .int .i64 0, .int .i64 0, .int .i64 0, .int .i64 0, .int .i64 0, .int .i64 0, .slice none 0 0, .int .i64 0, .bool false, .int .i64 0, .bool false, .int .i64 0, .bool false, .int .i64 0, .bool false, .int .i64 0, .int .u64 0, .int .i64 0, .bool false, .int .i64 0, .bool false, .int .i64 0, .bool false, .int .i64 0, .bool false, .int .i64 0, .int .u64 0, .int .i64 0, .int .u64 0, .int .u64 0, .int .i64 0, .int .u64 0, .int .u64 0, .int .i64 0, .int .u64 0, .int .u64 0, .int .i64 0, .int .u64 0, .int .u64 0, .int .i64 0, .int .u64 0, .int .u64 0, .int .i64 0, .int .u64 0, .int .u64 0, .int .i64 0, .int .u64 0, .int .u64 0, .int .i64 0, .int .u64 0, .int .u64 0, .slice none 0 0, .slice none 0 0, .slice none 0 0] 94)).alloc (.cells #[.int .i64 0, .int .u64 0, .int .u64 0, .int .u64 0, .int .i64 0, .int .i64 0] 36)).setRow w4.heap.size (St (.slice (some ⟨g, 2, none⟩) 0 (cap - 1)))).setRow (w4.heap.size + 1) #[.int .i64 0, .int .u64 1, .int .u64 0, .int .u64 0, .int .i64 0, .int .i64 0]).heap[w4.heap.size]? = some (.cells (St (.slice (some ⟨g, 2, none⟩) 0 (cap - 1))) 94) := (setRow_other _ _ _ _ (by omega)).trans (setRow_heap _ _ Zst _ 94 (0, 0) n0)
  have p13 : ((((w4.alloc (.cells #[.int .i64 0, .int .i64 0, .int .i64 0, .int .i64 0, .int .i64 0, .int .i64 0, .int .i64 0, .int .i64 0, .int .i64 0, .int .i64 0, .int .i64 0, .int .i64 0, .int .i64 0, .int .i64 0, .int .i64 0, .slice none 0 0, .int .i64 0, .bool false, .int .i64 0, .bool false, .int .i64 0, .bool false, .int .i64 0, .bool false, .int .i64 0, .int .u64 0, .int .i64 0, .bool false, .int .i64 0, .bool false, .int .i64 0, .bool false, .int .i64 0, .bool false, .int .i64 0, .int .u64 0, .int .i64 0, .int .u64 0, .int .u64 0, .int .i64 0, .int .u64 0, .int .u64 0, .int .i64 0, .int .u64 0, .int .u64 0, .int .i64 0, .int .u64 0, .int .u64 0, .int .i64 0, .int .u64 0, .int .u64 0, .int .i64 0, .int .u64 0, .int .u64 0, .int .i64 0, .int .u64 0, .int .u64 0, .int .i64 0, .int .u64 0, .int .u64 0, .slice none 0 0, .slice none 0 0, .slice none 0 0] 94)).alloc (.cells #[.int .i64 0, .int .u64 0, .int .u64 0, .int .u64 0, .int .i64 0, .int .i64 0] 36)).setRow w4.heap.size (St (.slice (some ⟨g, 2, none⟩) 0 (cap - 1)))).setRow (w4.heap.size + 1) #[.int .i64 0, .int .u64 1, .int .u64 0, .int .u64 0, .int .i64 0, .int .i64 0]).heap[w4.heap.size + 1]? = some (.cells #[.int .i64 0, .int .u64 1, .int .u64 0, .int .u64 0, .int .i64 0, .int .i64 0] 36) := setRow_heap _ _ #[.int .i64 0, .int .u64 0, .int .u64 0, .int .u64 0, .int .i64 0, .int .i64 0] _ 36 (0, 0) n1
  go_wp2_with (first | (refine wpList_store_row rfl 94 (.tmp 12) (.tmp 77) rfl _ (St (.slice (some ⟨g, 2, none⟩) 0 (cap - 1))) rfl rfl 94 Zst n0 (by kernel_rfl) rfl (St_one _ rfl) ?_) | (refine wpList_store_row rfl 36 (.tmp 13) (.tmp 78) rfl _ #[.int .i64 0, .int .u64 1, .int .u64 0, .int .u64 0, .int .i64 0, .int .i64 0] rfl rfl 36 #[.int .i64 0, .int .u64 0, .int .u64 0, .int .u64 0, .int .i64 0, .int .i64 0] n1 (by kernel_rfl) rfl (by simp [Value.oneCell']) ?_) | (refine wpList_load_row rfl 36 (.tmp 7) rfl _ rfl 36 _ _ _ ba Tryz.underlying36 rfl (by kernel_rfl) ?_) | (refine wpList_load_row rfl 36 (.tmp 13) rfl _ rfl 36 _ _ _ p13 Tryz.underlying36 rfl (by kernel_rfl) ?_) | (refine wpList_load_row rfl 94 (.tmp 12) rfl _ rfl 94 _ _ _ p12 Tryz.underlying94 rfl (by kernel_rfl) ?_) | (refine wpList_store_row rfl 94 (.tmp 8) (.tmp 83) rfl _ (St (.slice (some ⟨g, 2, none⟩) 0 (cap - 1))) rfl rfl 94 Zst bz (by kernel_rfl) rfl (St_one _ rfl) ?_))
  have r0 : (((((w4.alloc (.cells #[.int .i64 0, .int .i64 0, .int .i64 0, .int .i64 0, .int .i64 0, .int .i64 0, .int .i64 0, .int .i64 0, .int .i64 0, .int .i64 0, .int .i64 0, .int .i64 0, .int .i64 0, .int .i64 0, .int .i64 0, .slice none 0 0, .int .i64 0, .bool false, .int .i64 0, .bool false, .int .i64 0, .bool false, .int .i64 0, .bool false, .int .i64 0, .int .u64 0, .int .i64 0, .bool false, .int .i64 0, .bool false, .int .i64 0, .bool false, .int .i64 0, .bool false, .int .i64 0, .int .u64 0, .int .i64 0, .int .u64 0, .int .u64 0, .int .i64 0, .int .u64 0, .int .u64 0, .int .i64 0, .int .u64 0, .int .u64 0, .int .i64 0, .int .u64 0, .int .u64 0, .int .i64 0, .int .u64 0, .int .u64 0, .int .i64 0, .int .u64 0, .int .u64 0, .int .i64 0, .int .u64 0, .int .u64 0, .int .i64 0, .int .u64 0, .int .u64 0, .slice none 0 0, .slice none 0 0, .slice none 0 0] 94)).alloc (.cells #[.int .i64 0, .int .u64 0, .int .u64 0, .int .u64 0, .int .i64 0, .int .i64 0] 36)).setRow w4.heap.size (St (.slice (some ⟨g, 2, none⟩) 0 (cap - 1)))).setRow (w4.heap.size + 1) #[.int .i64 0, .int .u64 1, .int .u64 0, .int .u64 0, .int .i64 0, .int .i64 0]).setRow (w.heap.size + 1 + 1 + 1) (St (.slice (some ⟨g, 2, none⟩) 0 (cap - 1)))).heap[w.heap.size + 1 + 1 + 1]? = some (.cells (St (.slice (some ⟨g, 2, none⟩) 0 (cap - 1))) 94) := setRow_heap _ _ Zst _ 94 (0, 0) bz
  have l0 := run_loadVar_row (P := Tryz.prog) _ _ _ 94 _ _ _ r0 Tryz.underlying94 rfl (by kernel_rfl)
  exact bodyPost_ret (v := .tuple #[.agg (St (.slice (some ⟨g, 2, none⟩) 0 (cap - 1))), .bool true]) (by simp [results, Tryz.results34, asAddr, Act.put, l0]) rfl ⟨rfl, below_setRow (below_setRow (below_setRow (below_alloc (below_alloc hbw _) _) hbw.size _) (Nat.le_succ_of_le hbw.size) _) (by omega) _⟩

end Go.Proofs.YtphbnfjamclmjaaGreatDoor
