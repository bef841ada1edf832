import Derived.Test.YtphbnfjamclmjaaGreatDoorMc
import Derived.Test.YtphbnfjamclmjaaGreatDoorLk
import Derived.Test.YtphbnfjamclmjaaGreatDoorLl
/- The guard of stage 16's statements, walked: the chapter's example is explained in one order, and not in the other. -/
namespace Go.Proofs.YtphbnfjamclmjaaGreatDoor
open Go.RowKit Go.Maps Go.Sort Go.Proofs.YtphbnfjamclmjaaGreatDoorW.PrintWords Go.Proofs.YtphbnfjamclmjaaGreatDoor.PProofMay
set_option linter.unusedVariables false
set_option linter.unusedSimpArgs false

def opA : S38 := ⟨0, ⟨6, 0, 0, ⟨1, 0⟩, 0, 0⟩, ⟨0, ⟨0, 0⟩, 0, 0, 0⟩, 0, 1⟩
def opB : S38 := ⟨0, ⟨7, 0, 0, ⟨0, 0⟩, 0, 0⟩, ⟨0, ⟨1, 0⟩, 0, 0, 0⟩, 2, 3⟩
theorem add_zero (L n : Nat) : (⟨L, 0, none⟩ : Addr).add n = ⟨L, n, none⟩ := by
  unfold Addr.add
  split
  · rename_i h; rw [h]
  · simp
theorem ops2_C {w : World} {L : Nat} (bl : w.heap[L]? = some (.cells Ops2 38)) : Kd.C k38 w (some ⟨L, 0, none⟩) 2 [opA, opB] := by
  refine ⟨rfl, by decide, fun _ => ⟨_, rfl, fun j p hj => ?_⟩⟩
  have hc := cell_blk bl
  match j, hj with
  | 0, hj =>
    obtain rfl : opA = p := by simpa using hj
    refine ⟨_, rfl, k38_mk w opA, fun i u hi => ?_⟩
    have e : Ops2[0 * 16 + i]? = some u := by
      show (#[_, _, _, _, _, _, _, _, _, _, _, _, _, _, _, _, _, _, _, _, _, _, _, _, _, _, _, _, _, _, _, _] : Array Value)[0 * 16 + i]? = _
      have hlt : i < 16 := by
        have := (List.getElem?_eq_some_iff.1 hi).1
        simpa using this
      rw [← hi, Nat.zero_mul, Nat.zero_add]
      match i, hlt with
      | 0, _ | 1, _ | 2, _ | 3, _ | 4, _ | 5, _ | 6, _ | 7, _ | 8, _ | 9, _ | 10, _ | 11, _ | 12, _ | 13, _ | 14, _ | 15, _ => rfl
    rw [← e]
    have e16 : k38.sz = 16 := rfl
    rw [e16, add_zero]
    exact hc _
  | 1, hj =>
    obtain rfl : opB = p := by simpa using hj
    refine ⟨_, rfl, k38_mk w opB, fun i u hi => ?_⟩
    have e : Ops2[1 * 16 + i]? = some u := by
      have hlt : i < 16 := by
        have := (List.getElem?_eq_some_iff.1 hi).1
        simpa using this
      rw [← hi]
      match i, hlt with
      | 0, _ | 1, _ | 2, _ | 3, _ | 4, _ | 5, _ | 6, _ | 7, _ | 8, _ | 9, _ | 10, _ | 11, _ | 12, _ | 13, _ | 14, _ | 15, _ => rfl
    rw [← e]
    have e16 : k38.sz = 16 := rfl
    rw [e16, add_zero]
    exact hc _
  | (j + 2), hj => simp at hj
theorem ints2_C {w : World} {O : Nat} (a b : Int) (bo : w.heap[O]? = some (.cells #[.int .i64 a, .int .i64 b] 3)) : Kd.C (Kd.int .i64) w (some ⟨O, 0, none⟩) 2 [a, b] := by
  refine ⟨rfl, by decide, fun _ => ⟨_, rfl, fun j p hj => ?_⟩⟩
  have hc := cell_blk bo
  match j, hj with
  | 0, hj =>
    obtain rfl : a = p := by simpa using hj
    refine ⟨_, rfl, rfl, fun i u hi => ?_⟩
    obtain rfl : i = 0 := by have := (List.getElem?_eq_some_iff.1 hi).1; simpa using this
    exact (hc 0).trans hi
  | 1, hj =>
    obtain rfl : b = p := by simpa using hj
    refine ⟨_, rfl, rfl, fun i u hi => ?_⟩
    obtain rfl : i = 0 := by have := (List.getElem?_eq_some_iff.1 hi).1; simpa using this
    exact (hc 1).trans hi
  | (j + 2), hj => simp at hj
theorem may_example : mayB [opA, opB] [0, 1] = true := by decide

set_option maxHeartbeats 4000000 in
set_option maxRecDepth 100000 in
theorem one19 (w : World) : Calls Tryz.prog 19 #[] w fun e w' => e = .returned (.agg #[.int .i64 1, .int .i64 1, .int .i64 0, .int .i64 0, .int .i64 0, .int .i64 0, .int .i64 0, .int .i64 0, .int .i64 0, .int .i64 0, .int .i64 2, .int .i64 1, .int .i64 1, .int .i64 0]) ∧ Below w.heap.size w w' := by
  go_enter Tryz.func19, Tryz.ntmps19
  go_wp2
  exact bodyPost_ret (v := .agg #[.int .i64 1, .int .i64 1, .int .i64 0, .int .i64 0, .int .i64 0, .int .i64 0, .int .i64 0, .int .i64 0, .int .i64 0, .int .i64 0, .int .i64 2, .int .i64 1, .int .i64 1, .int .i64 0]) (by simp [results, Tryz.results19, go_sem]) rfl ⟨rfl, by repeat (first | exact Below.refl _ _ | refine below_alloc ?_ _)⟩

set_option maxHeartbeats 4000000 in
set_option maxRecDepth 100000 in
theorem explains_01 (L O : Nat) (w : World) (bl : w.heap[L]? = some (.cells Ops2 38)) (bo : w.heap[O]? = some (.cells #[.int .i64 0, .int .i64 1] 3)) :
    Calls Tryz.prog 18 #[.agg #[.int .i64 1, .int .i64 1, .int .i64 0, .int .i64 0, .int .i64 0, .int .i64 0, .int .i64 0, .int .i64 0, .int .i64 0, .int .i64 0, .int .i64 2, .int .i64 1, .int .i64 1, .int .i64 0], .int .i64 0, .slice (some ⟨L, 0, none⟩) 2 2, .slice (some ⟨O, 0, none⟩) 2 2] w fun e w' => e = .returned (.bool true) ∧ Below w.heap.size w w' := by
  have bz : ∀ W : World, (W.alloc (.cells #[.int .i64 0, .int .i64 0, .int .i64 0, .int .i64 0, .int .i64 0, .int .i64 0, .int .i64 0, .int .i64 0, .int .i64 0, .int .i64 0, .int .i64 0, .int .i64 0, .int .i64 0, .int .i64 0, .int .i64 0, .slice none 0 0, .int .i64 0, .bool false, .int .i64 0, .bool false, .int .i64 0, .bool false, .int .i64 0, .bool false, .int .i64 0, .int .u64 0, .int .i64 0, .bool false, .int .i64 0, .bool false, .int .i64 0, .bool false, .int .i64 0, .bool false, .int .i64 0, .int .u64 0, .int .i64 0, .int .u64 0, .int .u64 0, .int .i64 0, .int .u64 0, .int .u64 0, .int .i64 0, .int .u64 0, .int .u64 0, .int .i64 0, .int .u64 0, .int .u64 0, .int .i64 0, .int .u64 0, .int .u64 0, .int .i64 0, .int .u64 0, .int .u64 0, .int .i64 0, .int .u64 0, .int .u64 0, .int .i64 0, .int .u64 0, .int .u64 0, .slice none 0 0, .slice none 0 0, .slice none 0 0] 94)).heap[W.heap.size]? = some (.cells Zst 94) := fun W => blk_new W Zst 94 _ rfl
  have sl := lt_blk bl
  have so := lt_blk bo
  go_enter Tryz.func18, Tryz.ntmps18
  go_wp2_with fail
  refine (new_one _).mono ?_
  rintro e w1 ⟨rfl, hb1⟩
  go_wp2_with fail
  replace bl := blk_below hb1 (by simp; omega) (blk_old _ _ _ sl bl)
  replace bo := blk_below hb1 (by simp; omega) (blk_old _ _ _ so bo)
  replace hb1 := below_next (below_alloc (Below.refl _ _) _) hb1
  replace sl := lt_blk bl
  replace so := lt_blk bo
  refine (behind_01 L O w1 bl bo).mono ?_
  rintro e w2 ⟨q, rfl, hq, hb2⟩
  replace bl := blk_below hb2 sl bl
  replace bo := blk_below hb2 so bo
  replace sl := lt_blk bl
  replace so := lt_blk bo
  have hbw := below_next hb1 hb2
  have hsz := hbw.size
  clear hb1 hb2
  go_wp2_with (first
    | (refine wpList_store_row rfl 94 (.tmp 9) (.tmp 18) rfl _ (St q) rfl rfl 94 Zst (bz _) (by kernel_rfl) rfl (St_one _ hq) ?_)
    | fail)
  obtain ⟨w3, hw3⟩ : ∃ w3, w3 = (w2.alloc (.cells #[.int .i64 0, .int .i64 0, .int .i64 0, .int .i64 0, .int .i64 0, .int .i64 0, .int .i64 0, .int .i64 0, .int .i64 0, .int .i64 0, .int .i64 0, .int .i64 0, .int .i64 0, .int .i64 0, .int .i64 0, .slice none 0 0, .int .i64 0, .bool false, .int .i64 0, .bool false, .int .i64 0, .bool false, .int .i64 0, .bool false, .int .i64 0, .int .u64 0, .int .i64 0, .bool false, .int .i64 0, .bool false, .int .i64 0, .bool false, .int .i64 0, .bool false, .int .i64 0, .int .u64 0, .int .i64 0, .int .u64 0, .int .u64 0, .int .i64 0, .int .u64 0, .int .u64 0, .int .i64 0, .int .u64 0, .int .u64 0, .int .i64 0, .int .u64 0, .int .u64 0, .int .i64 0, .int .u64 0, .int .u64 0, .int .i64 0, .int .u64 0, .int .u64 0, .int .i64 0, .int .u64 0, .int .u64 0, .int .i64 0, .int .u64 0, .int .u64 0, .slice none 0 0, .slice none 0 0, .slice none 0 0] 94)).setRow w2.heap.size (St q) := ⟨_, rfl⟩
  rw [← hw3]
  replace bl := (show w3.heap[_]? = _ from (by (subst hw3; exact (setRow_other _ _ _ _ (by omega)).trans (blk_old _ _ _ sl bl))))
  replace bo := (show w3.heap[_]? = _ from (by (subst hw3; exact (setRow_other _ _ _ _ (by omega)).trans (blk_old _ _ _ so bo))))
  replace hbw : Below w.heap.size w w3 := by (subst hw3; exact below_setRow (below_alloc hbw _) (by omega) _)
  clear hw3 bz
  have hm : Calls Tryz.prog 8 #[.slice (some ⟨L, 0, none⟩) 2 2, .slice (some ⟨O, 0, none⟩) 2 2] w3 fun e w' => e = .returned (.bool true) ∧ Below w3.heap.size w3 w' := by
    have := may_any [opA, opB] (some ⟨L, 0, none⟩) (some ⟨O, 0, none⟩) 2 2 [0, 1] w3 (by decide) (by decide) (ops2_C bl) (ints2_C 0 1 bo) (by intro x hx; simp at hx; rcases hx with rfl | rfl <;> decide)
    rw [may_example] at this
    exact this
  refine hm.mono ?_
  rintro e w4 ⟨rfl, hb4⟩
  go_wp2
  go_ret
  exact ⟨rfl, below_next hbw hb4⟩

set_option maxHeartbeats 4000000 in
set_option maxRecDepth 100000 in
theorem explains_10 (L O : Nat) (w : World) (bl : w.heap[L]? = some (.cells Ops2 38)) (bo : w.heap[O]? = some (.cells #[.int .i64 1, .int .i64 0] 3)) :
    Calls Tryz.prog 18 #[.agg #[.int .i64 1, .int .i64 1, .int .i64 0, .int .i64 0, .int .i64 0, .int .i64 0, .int .i64 0, .int .i64 0, .int .i64 0, .int .i64 0, .int .i64 2, .int .i64 1, .int .i64 1, .int .i64 0], .int .i64 0, .slice (some ⟨L, 0, none⟩) 2 2, .slice (some ⟨O, 0, none⟩) 2 2] w fun e w' => e = .returned (.bool false) ∧ Below w.heap.size w w' := by
  have bz : ∀ W : World, (W.alloc (.cells #[.int .i64 0, .int .i64 0, .int .i64 0, .int .i64 0, .int .i64 0, .int .i64 0, .int .i64 0, .int .i64 0, .int .i64 0, .int .i64 0, .int .i64 0, .int .i64 0, .int .i64 0, .int .i64 0, .int .i64 0, .slice none 0 0, .int .i64 0, .bool false, .int .i64 0, .bool false, .int .i64 0, .bool false, .int .i64 0, .bool false, .int .i64 0, .int .u64 0, .int .i64 0, .bool false, .int .i64 0, .bool false, .int .i64 0, .bool false, .int .i64 0, .bool false, .int .i64 0, .int .u64 0, .int .i64 0, .int .u64 0, .int .u64 0, .int .i64 0, .int .u64 0, .int .u64 0, .int .i64 0, .int .u64 0, .int .u64 0, .int .i64 0, .int .u64 0, .int .u64 0, .int .i64 0, .int .u64 0, .int .u64 0, .int .i64 0, .int .u64 0, .int .u64 0, .int .i64 0, .int .u64 0, .int .u64 0, .int .i64 0, .int .u64 0, .int .u64 0, .slice none 0 0, .slice none 0 0, .slice none 0 0] 94)).heap[W.heap.size]? = some (.cells Zst 94) := fun W => blk_new W Zst 94 _ rfl
  have sl := lt_blk bl
  have so := lt_blk bo
  go_enter Tryz.func18, Tryz.ntmps18
  go_wp2_with fail
  refine (new_one _).mono ?_
  rintro e w1 ⟨rfl, hb1⟩
  go_wp2_with fail
  replace bl := blk_below hb1 (by simp; omega) (blk_old _ _ _ sl bl)
  replace bo := blk_below hb1 (by simp; omega) (blk_old _ _ _ so bo)
  replace hb1 := below_next (below_alloc (Below.refl _ _) _) hb1
  refine (behind_10 L O w1 bl bo).mono ?_
  rintro e w2 ⟨rfl, hb2⟩
  have hbw := below_next hb1 hb2
  have hsz := hbw.size
  clear hb1 hb2 bl bo
  go_wp2_with (first
    | (refine wpList_store_row rfl 94 (.tmp 9) (.tmp 18) rfl _ (St (.slice none 0 0)) rfl rfl 94 Zst (bz _) (by kernel_rfl) rfl (St_one _ rfl) ?_)
    | fail)
  go_ret
  exact ⟨rfl, below_setRow (below_alloc hbw _) (by omega) _⟩

def LivesPost (w : World) (e : Ending) (w' : World) : Prop := e = .returned (.bool true) ∧ Below w.heap.size w w'
set_option maxHeartbeats 4000000 in
set_option maxRecDepth 100000 in
theorem lives_true (w : World) : Calls Tryz.prog 7 #[] w (LivesPost w) := by
  go_enter Tryz.func7, Tryz.ntmps7
  go_wp2_with fail
  have bL : ((w.alloc (.cells #[.int .u64 1, .int .u64 0] 31)).alloc (.cells #[.int .i64 0, .int .i64 6, .int .i64 0, .int .i64 0, .int .u64 1, .int .u64 0, .int .u64 0, .int .i64 0, .int .i64 0, .int .u64 0, .int .u64 0, .int .u64 0, .int .i64 0, .int .i64 0, .int .i64 0, .int .i64 1, .int .i64 0, .int .i64 7, .int .i64 0, .int .i64 0, .int .u64 0, .int .u64 0, .int .u64 0, .int .i64 0, .int .i64 0, .int .u64 1, .int .u64 0, .int .u64 0, .int .i64 0, .int .i64 0, .int .i64 2, .int .i64 3] 38)).heap[w.heap.size + 1]? = some (.cells Ops2 38) := blk_new _ _ _ _ (by simp)
  have hb0 : Below w.heap.size w ((w.alloc (.cells #[.int .u64 1, .int .u64 0] 31)).alloc (.cells #[.int .i64 0, .int .i64 6, .int .i64 0, .int .i64 0, .int .u64 1, .int .u64 0, .int .u64 0, .int .i64 0, .int .i64 0, .int .u64 0, .int .u64 0, .int .u64 0, .int .i64 0, .int .i64 0, .int .i64 0, .int .i64 1, .int .i64 0, .int .i64 7, .int .i64 0, .int .i64 0, .int .u64 0, .int .u64 0, .int .u64 0, .int .i64 0, .int .i64 0, .int .u64 1, .int .u64 0, .int .u64 0, .int .i64 0, .int .i64 0, .int .i64 2, .int .i64 3] 38)) := below_alloc (below_alloc (Below.refl _ _) _) _
  refine (one19 _).mono ?_
  rintro e w1 ⟨rfl, hb1⟩
  replace bL := blk_below hb1 (by simp) bL
  replace hb1 := below_next hb0 hb1
  clear hb0
  have sl := lt_blk bL
  go_wp2_with fail
  refine (explains_01 (w.heap.size + 1) w1.heap.size _ (blk_old _ _ _ sl bL) (blk_new _ _ _ _ rfl)).mono ?_
  rintro e w2 ⟨rfl, hb2⟩
  replace bL := blk_below hb2 (by simp; omega) (blk_old _ _ _ sl bL)
  replace hb2 := below_next (below_alloc hb1 _) hb2
  clear hb1 sl
  go_wp2_with fail
  refine (one19 _).mono ?_
  rintro e w3 ⟨rfl, hb3⟩
  replace bL := blk_below hb3 (lt_blk bL) bL
  replace hb3 := below_next hb2 hb3
  clear hb2
  have sl := lt_blk bL
  go_wp2_with fail
  refine (explains_10 (w.heap.size + 1) w3.heap.size _ (blk_old _ _ _ sl bL) (blk_new _ _ _ _ rfl)).mono ?_
  rintro e w4 ⟨rfl, hb4⟩
  replace hb4 := below_next (below_alloc hb3 _) hb4
  clear hb3 sl bL
  go_wp2
  go_ret
  exact ⟨rfl, hb4⟩
end Go.Proofs.YtphbnfjamclmjaaGreatDoor
