import Derived.Test.YtphbnfjamclmjaaGreatDoorLg
import Derived.Deep.RegionHeld3
import Derived.Deep.CutBlock
import Derived.Deep.DeepCutAuto
namespace Go.Proofs.YtphbnfjamclmjaaGreatDoor
open Go.RowKit Go.Sort
set_option linter.unusedVariables false
set_option linter.unusedSimpArgs false

attribute [local go_sem] St_0 St_1 St_2 St_3 St_4 St_5 St_6 St_7 St_8 St_9 St_10 St_11 St_12 St_13 St_14 St_60

def Ops2 : Array Value := #[.int .i64 0, .int .i64 6, .int .i64 0, .int .i64 0, .int .u64 1, .int .u64 0, .int .u64 0, .int .i64 0, .int .i64 0, .int .u64 0, .int .u64 0, .int .u64 0, .int .i64 0, .int .i64 0, .int .i64 0, .int .i64 1, .int .i64 0, .int .i64 7, .int .i64 0, .int .i64 0, .int .u64 0, .int .u64 0, .int .u64 0, .int .i64 0, .int .i64 0, .int .u64 1, .int .u64 0, .int .u64 0, .int .i64 0, .int .i64 0, .int .i64 2, .int .i64 3]
theorem Ops2_0 : Ops2[0]? = some (.int .i64 0) := rfl
theorem Ops2_1 : Ops2[1]? = some (.int .i64 6) := rfl
theorem Ops2_2 : Ops2[2]? = some (.int .i64 0) := rfl
theorem Ops2_3 : Ops2[3]? = some (.int .i64 0) := rfl
theorem Ops2_4 : Ops2[4]? = some (.int .u64 1) := rfl
theorem Ops2_5 : Ops2[5]? = some (.int .u64 0) := rfl
theorem Ops2_6 : Ops2[6]? = some (.int .u64 0) := rfl
theorem Ops2_7 : Ops2[7]? = some (.int .i64 0) := rfl
theorem Ops2_8 : Ops2[8]? = some (.int .i64 0) := rfl
theorem Ops2_9 : Ops2[9]? = some (.int .u64 0) := rfl
theorem Ops2_10 : Ops2[10]? = some (.int .u64 0) := rfl
theorem Ops2_11 : Ops2[11]? = some (.int .u64 0) := rfl
theorem Ops2_12 : Ops2[12]? = some (.int .i64 0) := rfl
theorem Ops2_13 : Ops2[13]? = some (.int .i64 0) := rfl
theorem Ops2_14 : Ops2[14]? = some (.int .i64 0) := rfl
theorem Ops2_15 : Ops2[15]? = some (.int .i64 1) := rfl
theorem Ops2_16 : Ops2[16]? = some (.int .i64 0) := rfl
theorem Ops2_17 : Ops2[17]? = some (.int .i64 7) := rfl
theorem Ops2_18 : Ops2[18]? = some (.int .i64 0) := rfl
theorem Ops2_19 : Ops2[19]? = some (.int .i64 0) := rfl
theorem Ops2_20 : Ops2[20]? = some (.int .u64 0) := rfl
theorem Ops2_21 : Ops2[21]? = some (.int .u64 0) := rfl
theorem Ops2_22 : Ops2[22]? = some (.int .u64 0) := rfl
theorem Ops2_23 : Ops2[23]? = some (.int .i64 0) := rfl
theorem Ops2_24 : Ops2[24]? = some (.int .i64 0) := rfl
theorem Ops2_25 : Ops2[25]? = some (.int .u64 1) := rfl
theorem Ops2_26 : Ops2[26]? = some (.int .u64 0) := rfl
theorem Ops2_27 : Ops2[27]? = some (.int .u64 0) := rfl
theorem Ops2_28 : Ops2[28]? = some (.int .i64 0) := rfl
theorem Ops2_29 : Ops2[29]? = some (.int .i64 0) := rfl
theorem Ops2_30 : Ops2[30]? = some (.int .i64 2) := rfl
theorem Ops2_31 : Ops2[31]? = some (.int .i64 3) := rfl

attribute [local go_sem] Ops2_0 Ops2_1 Ops2_2 Ops2_3 Ops2_4 Ops2_5 Ops2_6 Ops2_7 Ops2_8 Ops2_9 Ops2_10 Ops2_11 Ops2_12 Ops2_13 Ops2_14 Ops2_15 Ops2_16 Ops2_17 Ops2_18 Ops2_19 Ops2_20 Ops2_21 Ops2_22 Ops2_23 Ops2_24 Ops2_25 Ops2_26 Ops2_27 Ops2_28 Ops2_29 Ops2_30 Ops2_31

theorem wpList_build_to {P : Program} {ops : Array Oper} {rest : List Oper} {o : Oper} {a : Act} {w : World} {Q : Exit → Act → World → Prop} (hg : o.guard = none) (t : TypeId) (parts : Array (Nat × Operand)) (ho : o.op = .build t parts)
    (cs : Array Value) (hf : P.built t (parts.map fun (i, x) => (i, a.eval x)).toList = some cs) (h : wpList P ops Q rest (a.put o.dst (.agg cs)) w) : wpList P ops Q (o :: rest) a w :=
  wpList_build hg t parts ho (by rw [hf]; rfl) (by rw [hf]; exact h)

set_option maxHeartbeats 4000000 in
set_option maxRecDepth 100000 in
theorem new_one (w : World) : Calls Tryz.prog 29 #[.agg #[.int .i64 1, .int .i64 1, .int .i64 0, .int .i64 0, .int .i64 0, .int .i64 0, .int .i64 0, .int .i64 0, .int .i64 0, .int .i64 0, .int .i64 2, .int .i64 1, .int .i64 1, .int .i64 0], .int .i64 0] w fun e w' => e = .returned (.agg (St (.slice none 0 0))) ∧ Below w.heap.size w w' := by
  have bz : ((w.alloc (.cells #[.int .i64 1, .int .i64 1, .int .i64 0, .int .i64 0, .int .i64 0, .int .i64 0, .int .i64 0, .int .i64 0, .int .i64 0, .int .i64 0, .int .i64 2, .int .i64 1, .int .i64 1, .int .i64 0] 42)).alloc (.cells #[.int .i64 0, .int .i64 0, .int .i64 0, .int .i64 0, .int .i64 0, .int .i64 0, .int .i64 0, .int .i64 0, .int .i64 0, .int .i64 0, .int .i64 0, .int .i64 0, .int .i64 0, .int .i64 0, .int .i64 0, .slice none 0 0, .int .i64 0, .bool false, .int .i64 0, .bool false, .int .i64 0, .bool false, .int .i64 0, .bool false, .int .i64 0, .int .u64 0, .int .i64 0, .bool false, .int .i64 0, .bool false, .int .i64 0, .bool false, .int .i64 0, .bool false, .int .i64 0, .int .u64 0, .int .i64 0, .int .u64 0, .int .u64 0, .int .i64 0, .int .u64 0, .int .u64 0, .int .i64 0, .int .u64 0, .int .u64 0, .int .i64 0, .int .u64 0, .int .u64 0, .int .i64 0, .int .u64 0, .int .u64 0, .int .i64 0, .int .u64 0, .int .u64 0, .int .i64 0, .int .u64 0, .int .u64 0, .int .i64 0, .int .u64 0, .int .u64 0, .slice none 0 0, .slice none 0 0, .slice none 0 0] 94)).heap[w.heap.size + 1]? = some (.cells Zst 94) := blk_new _ _ _ _ (by simp)
  go_enter Tryz.func29, Tryz.ntmps29
  go_wp2_with (first | (refine wpList_build_to rfl 94 #[(0, .tmp 5), (1, .tmp 6)] rfl (St (.slice none 0 0)) (by kernel_rfl) ?_) | (refine wpList_store_row rfl 94 (.tmp 4) (.tmp 7) rfl _ (St (.slice none 0 0)) rfl rfl 94 Zst bz (by kernel_rfl) rfl (St_one _ rfl) ?_))
  have l0 := run_loadVar_row (P := Tryz.prog) _ _ _ 94 _ _ _ (setRow_heap _ _ Zst (St (.slice none 0 0)) 94 (0, 0) bz) Tryz.underlying94 rfl (by kernel_rfl)
  exact bodyPost_ret (v := .agg (St (.slice none 0 0))) (by simp [results, Tryz.results29, asAddr, Act.put, l0]) rfl ⟨rfl, below_setRow (below_alloc (below_alloc (Below.refl _ _) _) _) (by omega) _⟩

end Go.Proofs.YtphbnfjamclmjaaGreatDoor
