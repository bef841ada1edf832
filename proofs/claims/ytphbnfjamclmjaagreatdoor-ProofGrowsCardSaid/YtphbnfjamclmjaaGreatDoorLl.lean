import Derived.Test.YtphbnfjamclmjaaGreatDoorLh
import Derived.Test.YtphbnfjamclmjaaGreatDoorLj
import Derived.Deep.RegionHeld3
import Derived.Deep.CutBlock
import Derived.Deep.DeepCutAuto
namespace Go.Proofs.YtphbnfjamclmjaaGreatDoor
open Go.RowKit Go.Sort
set_option linter.unusedVariables false
set_option linter.unusedSimpArgs false

attribute [local go_sem] St_0 St_1 St_2 St_3 St_4 St_5 St_6 St_7 St_8 St_9 St_10 St_11 St_12 St_13 St_14 St_60

attribute [local go_sem] Ops2_0 Ops2_1 Ops2_2 Ops2_3 Ops2_4 Ops2_5 Ops2_6 Ops2_7 Ops2_8 Ops2_9 Ops2_10 Ops2_11 Ops2_12 Ops2_13 Ops2_14 Ops2_15 Ops2_16 Ops2_17 Ops2_18 Ops2_19 Ops2_20 Ops2_21 Ops2_22 Ops2_23 Ops2_24 Ops2_25 Ops2_26 Ops2_27 Ops2_28 Ops2_29 Ops2_30 Ops2_31

set_option maxHeartbeats 4000000 in
set_option maxRecDepth 100000 in
theorem behind_10 (L O : Nat) (w : World) (bl : w.heap[L]? = some (.cells Ops2 38)) (bo : w.heap[O]? = some (.cells #[.int .i64 1, .int .i64 0] 3)) : Calls Tryz.prog 28 #[.agg (St (.slice none 0 0)), .slice (some ⟨L, 0, none⟩) 2 2, .slice (some ⟨O, 0, none⟩) 2 2] w (fun e w' => e = .returned (.tuple #[.agg (St (.slice none 0 0)), .bool false]) ∧ Below w.heap.size w w') := by
  have sl := lt_blk bl
  have so := lt_blk bo
  have bs0 : ((w.alloc (.cells (St (.slice none 0 0)) 94)).alloc (.cells #[.int .i64 0, .int .i64 0, .int .i64 0, .int .i64 0, .int .i64 0, .int .i64 0, .int .i64 0, .int .i64 0, .int .i64 0, .int .i64 0, .int .i64 0, .int .i64 0, .int .i64 0, .int .i64 0, .int .i64 0, .slice none 0 0, .int .i64 0, .bool false, .int .i64 0, .bool false, .int .i64 0, .bool false, .int .i64 0, .bool false, .int .i64 0, .int .u64 0, .int .i64 0, .bool false, .int .i64 0, .bool false, .int .i64 0, .bool false, .int .i64 0, .bool false, .int .i64 0, .int .u64 0, .int .i64 0, .int .u64 0, .int .u64 0, .int .i64 0, .int .u64 0, .int .u64 0, .int .i64 0, .int .u64 0, .int .u64 0, .int .i64 0, .int .u64 0, .int .u64 0, .int .i64 0, .int .u64 0, .int .u64 0, .int .i64 0, .int .u64 0, .int .u64 0, .int .i64 0, .int .u64 0, .int .u64 0, .int .i64 0, .int .u64 0, .int .u64 0, .slice none 0 0, .slice none 0 0, .slice none 0 0] 94)).heap[w.heap.size]? = some (.cells (St (.slice none 0 0)) 94) := (by repeat (first | (refine blk_new _ _ _ _ ?_; simp; done) | (refine blk_old _ _ _ ?_ ?_; simp only [World.size_alloc]; omega)))
  have bn0 : (((w.alloc (.cells (St (.slice none 0 0)) 94)).alloc (.cells #[.int .i64 0, .int .i64 0, .int .i64 0, .int .i64 0, .int .i64 0, .int .i64 0, .int .i64 0, .int .i64 0, .int .i64 0, .int .i64 0, .int .i64 0, .int .i64 0, .int .i64 0, .int .i64 0, .int .i64 0, .slice none 0 0, .int .i64 0, .bool false, .int .i64 0, .bool false, .int .i64 0, .bool false, .int .i64 0, .bool false, .int .i64 0, .int .u64 0, .int .i64 0, .bool false, .int .i64 0, .bool false, .int .i64 0, .bool false, .int .i64 0, .bool false, .int .i64 0, .int .u64 0, .int .i64 0, .int .u64 0, .int .u64 0, .int .i64 0, .int .u64 0, .int .u64 0, .int .i64 0, .int .u64 0, .int .u64 0, .int .i64 0, .int .u64 0, .int .u64 0, .int .i64 0, .int .u64 0, .int .u64 0, .int .i64 0, .int .u64 0, .int .u64 0, .int .i64 0, .int .u64 0, .int .u64 0, .int .i64 0, .int .u64 0, .int .u64 0, .slice none 0 0, .slice none 0 0, .slice none 0 0] 94)).alloc (.cells #[.int .i64 0, .int .i64 0, .int .i64 0, .int .i64 0, .int .i64 0, .int .i64 0, .int .i64 0, .int .i64 0, .int .i64 0, .int .i64 0, .int .i64 0, .int .i64 0, .int .i64 0, .int .i64 0, .int .i64 0, .slice none 0 0, .int .i64 0, .bool false, .int .i64 0, .bool false, .int .i64 0, .bool false, .int .i64 0, .bool false, .int .i64 0, .int .u64 0, .int .i64 0, .bool false, .int .i64 0, .bool false, .int .i64 0, .bool false, .int .i64 0, .bool false, .int .i64 0, .int .u64 0, .int .i64 0, .int .u64 0, .int .u64 0, .int .i64 0, .int .u64 0, .int .u64 0, .int .i64 0, .int .u64 0, .int .u64 0, .int .i64 0, .int .u64 0, .int .u64 0, .int .i64 0, .int .u64 0, .int .u64 0, .int .i64 0, .int .u64 0, .int .u64 0, .int .i64 0, .int .u64 0, .int .u64 0, .int .i64 0, .int .u64 0, .int .u64 0, .slice none 0 0, .slice none 0 0, .slice none 0 0] 94)).heap[w.heap.size + 1 + 1]? = some (.cells Zst 94) := blk_new _ _ _ _ (by simp)
  have bz0 : (((w.alloc (.cells (St (.slice none 0 0)) 94)).alloc (.cells #[.int .i64 0, .int .i64 0, .int .i64 0, .int .i64 0, .int .i64 0, .int .i64 0, .int .i64 0, .int .i64 0, .int .i64 0, .int .i64 0, .int .i64 0, .int .i64 0, .int .i64 0, .int .i64 0, .int .i64 0, .slice none 0 0, .int .i64 0, .bool false, .int .i64 0, .bool false, .int .i64 0, .bool false, .int .i64 0, .bool false, .int .i64 0, .int .u64 0, .int .i64 0, .bool false, .int .i64 0, .bool false, .int .i64 0, .bool false, .int .i64 0, .bool false, .int .i64 0, .int .u64 0, .int .i64 0, .int .u64 0, .int .u64 0, .int .i64 0, .int .u64 0, .int .u64 0, .int .i64 0, .int .u64 0, .int .u64 0, .int .i64 0, .int .u64 0, .int .u64 0, .int .i64 0, .int .u64 0, .int .u64 0, .int .i64 0, .int .u64 0, .int .u64 0, .int .i64 0, .int .u64 0, .int .u64 0, .int .i64 0, .int .u64 0, .int .u64 0, .slice none 0 0, .slice none 0 0, .slice none 0 0] 94)).alloc (.cells #[.int .i64 0, .int .i64 0, .int .i64 0, .int .i64 0, .int .i64 0, .int .i64 0, .int .i64 0, .int .i64 0, .int .i64 0, .int .i64 0, .int .i64 0, .int .i64 0, .int .i64 0, .int .i64 0, .int .i64 0, .slice none 0 0, .int .i64 0, .bool false, .int .i64 0, .bool false, .int .i64 0, .bool false, .int .i64 0, .bool false, .int .i64 0, .int .u64 0, .int .i64 0, .bool false, .int .i64 0, .bool false, .int .i64 0, .bool false, .int .i64 0, .bool false, .int .i64 0, .int .u64 0, .int .i64 0, .int .u64 0, .int .u64 0, .int .i64 0, .int .u64 0, .int .u64 0, .int .i64 0, .int .u64 0, .int .u64 0, .int .i64 0, .int .u64 0, .int .u64 0, .int .i64 0, .int .u64 0, .int .u64 0, .int .i64 0, .int .u64 0, .int .u64 0, .int .i64 0, .int .u64 0, .int .u64 0, .int .i64 0, .int .u64 0, .int .u64 0, .slice none 0 0, .slice none 0 0, .slice none 0 0] 94)).heap[w.heap.size + 1]? = some (.cells Zst 94) := blk_old _ _ _ (by simp) (blk_new _ _ _ _ (by simp))
  go_enter Tryz.func28, Tryz.ntmps28
  go_upto_region 2 with (first | (refine wpList_load_row rfl 94 (.tmp 3) rfl _ rfl 94 _ _ _ (by first | exact bs0 | exact blk_old _ _ _ (by simp; omega) bs0) Tryz.underlying94 rfl (by kernel_rfl) ?_) | (refine wpList_store_row rfl 94 (.tmp 8) (.tmp 13) rfl _ (St (.slice none 0 0)) rfl rfl 94 Zst bn0 (by kernel_rfl) rfl (St_one _ rfl) ?_))
  obtain ⟨w1, hw1⟩ : ∃ w1, w1 = (((w.alloc (.cells (St (.slice none 0 0)) 94)).alloc (.cells #[.int .i64 0, .int .i64 0, .int .i64 0, .int .i64 0, .int .i64 0, .int .i64 0, .int .i64 0, .int .i64 0, .int .i64 0, .int .i64 0, .int .i64 0, .int .i64 0, .int .i64 0, .int .i64 0, .int .i64 0, .slice none 0 0, .int .i64 0, .bool false, .int .i64 0, .bool false, .int .i64 0, .bool false, .int .i64 0, .bool false, .int .i64 0, .int .u64 0, .int .i64 0, .bool false, .int .i64 0, .bool false, .int .i64 0, .bool false, .int .i64 0, .bool false, .int .i64 0, .int .u64 0, .int .i64 0, .int .u64 0, .int .u64 0, .int .i64 0, .int .u64 0, .int .u64 0, .int .i64 0, .int .u64 0, .int .u64 0, .int .i64 0, .int .u64 0, .int .u64 0, .int .i64 0, .int .u64 0, .int .u64 0, .int .i64 0, .int .u64 0, .int .u64 0, .int .i64 0, .int .u64 0, .int .u64 0, .int .i64 0, .int .u64 0, .int .u64 0, .slice none 0 0, .slice none 0 0, .slice none 0 0] 94)).alloc (.cells #[.int .i64 0, .int .i64 0, .int .i64 0, .int .i64 0, .int .i64 0, .int .i64 0, .int .i64 0, .int .i64 0, .int .i64 0, .int .i64 0, .int .i64 0, .int .i64 0, .int .i64 0, .int .i64 0, .int .i64 0, .slice none 0 0, .int .i64 0, .bool false, .int .i64 0, .bool false, .int .i64 0, .bool false, .int .i64 0, .bool false, .int .i64 0, .int .u64 0, .int .i64 0, .bool false, .int .i64 0, .bool false, .int .i64 0, .bool false, .int .i64 0, .bool false, .int .i64 0, .int .u64 0, .int .i64 0, .int .u64 0, .int .u64 0, .int .i64 0, .int .u64 0, .int .u64 0, .int .i64 0, .int .u64 0, .int .u64 0, .int .i64 0, .int .u64 0, .int .u64 0, .int .i64 0, .int .u64 0, .int .u64 0, .int .i64 0, .int .u64 0, .int .u64 0, .int .i64 0, .int .u64 0, .int .u64 0, .int .i64 0, .int .u64 0, .int .u64 0, .slice none 0 0, .slice none 0 0, .slice none 0 0] 94)).setRow (w.heap.size + 1 + 1) (St (.slice none 0 0)) := ⟨_, rfl⟩
  rw [← hw1]
  have bn : w1.heap[w.heap.size + 1 + 1]? = some (.cells (St (.slice none 0 0)) 94) := by (subst hw1; exact setRow_heap _ _ Zst _ 94 (0, 0) bn0)
  have bz : w1.heap[w.heap.size + 1]? = some (.cells Zst 94) := by (subst hw1; exact (setRow_other _ _ _ _ (by omega)).trans bz0)
  have bs : w1.heap[w.heap.size]? = some (.cells (St (.slice none 0 0)) 94) := by (subst hw1; exact (setRow_other _ _ _ _ (by omega)).trans (blk_old _ _ _ (by simp; omega) bs0))
  replace bl := (show w1.heap[_]? = _ from (by (subst hw1; exact (setRow_other _ _ _ _ (by omega)).trans (blk_old _ _ _ (by simp; omega) (blk_old _ _ _ (by simp; omega) (blk_old _ _ _ sl bl))))))
  replace bo := (show w1.heap[_]? = _ from (by (subst hw1; exact (setRow_other _ _ _ _ (by omega)).trans (blk_old _ _ _ (by simp; omega) (blk_old _ _ _ (by simp; omega) (blk_old _ _ _ so bo))))))
  have hbw : Below w.heap.size w w1 := by (subst hw1; exact below_setRow (below_alloc (below_alloc (below_alloc (Below.refl _ _) _) _) _) (by omega) _)
  have nl : L ≠ w.heap.size + 1 + 1 := by omega
  have no : O ≠ w.heap.size + 1 + 1 := by omega
  clear hw1 bs0 bn0 bz0 sl so
  have sl := lt_blk bl
  have so := lt_blk bo
  have ss := lt_blk bs
  have sz := lt_blk bz
  have sn := lt_blk bn
  have cl := cell_blk bl
  have co := cell_blk bo
  have HBW : Hid _ := hbw
  clear hbw
  go_wp2_with fail
  refine wp_loop_rounds 3 ?_
  rw [rounds_succ]
  go_wp2_with (refine wpList_load_row rfl 94 (.tmp 8) rfl _ rfl 94 _ _ _ (blk_old _ _ _ sn bn) Tryz.underlying94 rfl (by kernel_rfl) ?_)
  refine (told13_nil _).mono ?_
  rintro e w2 ⟨rfl, hb2⟩
  clear cl co
  replace bl := blk_below hb2 (by simp; omega) (blk_old _ _ _ sl bl)
  replace sl := lt_blk bl
  replace bo := blk_below hb2 (by simp; omega) (blk_old _ _ _ so bo)
  replace so := lt_blk bo
  replace bs := blk_below hb2 (by simp; omega) (blk_old _ _ _ ss bs)
  replace ss := lt_blk bs
  replace bz := blk_below hb2 (by simp; omega) (blk_old _ _ _ sz bz)
  replace sz := lt_blk bz
  replace bn := blk_below hb2 (by simp; omega) (blk_old _ _ _ sn bn)
  replace sn := lt_blk bn
  have hbw := below_next (below_alloc HBW.out _) hb2
  clear hb2 HBW
  have bn2 : (w2.setRow (w.heap.size + 1 + 1) (St (.slice none 0 0))).heap[w.heap.size + 1 + 1]? = some (.cells (St (.slice none 0 0)) 94) := setRow_heap _ _ (St (.slice none 0 0)) _ 94 (0, 0) bn
  have bs2 : (w2.setRow (w.heap.size + 1 + 1) (St (.slice none 0 0))).heap[w.heap.size]? = some (.cells (St (.slice none 0 0)) 94) := (setRow_other _ _ _ _ (by omega)).trans bs
  have bz2 : (w2.setRow (w.heap.size + 1 + 1) (St (.slice none 0 0))).heap[w.heap.size + 1]? = some (.cells Zst 94) := (setRow_other _ _ _ _ (by omega)).trans bz
  clear bl bo bs bz
  go_wp2_with (first | (refine wpList_store_row rfl 94 (.tmp 8) (.tmp 54) rfl _ (St (.slice none 0 0)) rfl rfl 94 (St (.slice none 0 0)) bn (by kernel_rfl) rfl (St_one _ rfl) ?_) | (refine wpList_load_row rfl 94 (.tmp 3) rfl _ rfl 94 _ _ _ bs2 Tryz.underlying94 rfl (by kernel_rfl) ?_) | (refine wpList_store_row rfl 94 (.tmp 6) (.tmp 58) rfl _ (St (.slice none 0 0)) rfl rfl 94 Zst bz2 (by kernel_rfl) rfl (St_one _ rfl) ?_))
  have l0 := run_loadVar_row (P := Tryz.prog) _ _ _ 94 _ _ _ (setRow_heap (w2.setRow (w.heap.size + 1 + 1) (St (.slice none 0 0))) (w.heap.size + 1) Zst (St (.slice none 0 0)) 94 (0, 0) bz2) Tryz.underlying94 rfl (by kernel_rfl)
  exact bodyPost_ret (v := .tuple #[.agg (St (.slice none 0 0)), .bool false]) (by simp [results, Tryz.results28, asAddr, Act.put, l0]) rfl ⟨rfl, below_setRow (below_setRow hbw (by omega) _) (by omega) _⟩

end Go.Proofs.YtphbnfjamclmjaaGreatDoor
