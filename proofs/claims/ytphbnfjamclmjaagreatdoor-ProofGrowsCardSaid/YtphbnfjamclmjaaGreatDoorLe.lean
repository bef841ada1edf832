import Derived.Test.YtphbnfjamclmjaaGreatDoorLd
import Derived.Deep.MidRow
import Derived.Laws.CopyOwn
import Derived.Deep.RegionHeld3
namespace Go.Proofs.YtphbnfjamclmjaaGreatDoor
open Go.RowKit Go.Sort
set_option linter.unusedVariables false
set_option linter.unusedSimpArgs false

theorem yields_row {P : Program} {ops : Array Oper} {S : World → Prop} {op : Oper} {a : Act} (hw : Region.wanted op (yielded ops a.tmps) = true) (ty : TypeId) (x : Operand) (ho : op.op = .load ty x)
    (b : Nat) (hx : a.eval x = .pointer (some ⟨b, 0, none⟩)) (t : TypeId) (cs : Array Value) (d : TypeDesc) (hS : ∀ w, S w → w.heap[b]? = some (.cells cs t))
    (hu : P.underlying ty = some d) (hd : (match d with | .struct _ | .array _ _ => true | _ => false) = true) (hi : (P.info? ty).map (·.size) = some cs.size) : YieldsIf P ops S op (.agg cs) a :=
  .inl ⟨hw, fun w hw' => by
    unfold execOp
    simp only [ho, hx, Instr.loadAt, Instr.sureAddr, Sem.run_bind, Sem.run_pure, Result.andThen_ok, run_loadVar_row w b t ty cs (0, 0) d (hS w hw') hu hd hi]⟩

theorem held_one {P : Program} {md : Region.Mode} {ops : Array Oper} {Q : Exit → Act → World → Prop} {S : World → Prop} {fuel : Nat} {listed : Array Bool} {a : Act} {w : World} (i : Nat) {o : Oper} (ho : ops[i]? = some o)
    (hr : Region.ready md ops listed = [i]) (hw : Region.wanted o (yielded ops a.tmps) = true) (h : o.wp P a w (fun a' w' => S w' ∧ wpAnyH P md ops Q S fuel (listed.setIfInBounds i true) a' w') Q) : wpAnyH P md ops Q S (fuel + 1) listed a w :=
  wpAnyH_all hr (by simp) (fun j hj => by
    obtain rfl : j = i := by simpa using hj
    unfold wpOp
    simp only [ho, hw, if_true]
    exact .inl h)

set_option maxHeartbeats 4000000 in
set_option maxRecDepth 100000 in
theorem pop_below_a (g : Nat) (w : World) (e0 : w.cell? ⟨g, 0, none⟩ = some (.int .u64 1)) (e1 : w.cell? ⟨g, 1, none⟩ = some (.int .u64 0)) (hg : g < w.heap.size) : Calls Tryz.prog 113 #[.agg #[.slice (some ⟨g, 0, none⟩) 1 1]] w fun e w' => e = .returned (.tuple #[.agg #[.slice (some ⟨g, 0, none⟩) 0 0], .agg #[.int .u64 1, .int .u64 0], .bool true]) ∧ Below w.heap.size w w' :=
  (pop_one_a g w e0 e1 hg).mono fun e w' ⟨he, hw⟩ => ⟨he, hw ▸ (by repeat (first | exact Below.refl _ _ | refine Below.drew ?_ | refine below_alloc ?_ _))⟩

set_option maxHeartbeats 4000000 in
set_option maxRecDepth 100000 in
theorem pop_below_b (g cap : Nat) (w : World) (hcap : 1 < cap) (e0 : w.cell? ⟨g, 0, none⟩ = some (.int .u64 1)) (e1 : w.cell? ⟨g, 1, none⟩ = some (.int .u64 0)) (hg : g < w.heap.size) : Calls Tryz.prog 113 #[.agg #[.slice (some ⟨g, 0, none⟩) 1 cap]] w fun e w' => e = .returned (.tuple #[.agg #[.slice (some ⟨g, 2, none⟩) 0 (cap - 1)], .agg #[.int .u64 1, .int .u64 0], .bool true]) ∧ Below w.heap.size w w' :=
  (pop_one_b g cap w (by omega) e0 e1 hg hcap).mono fun e w' ⟨he, hw⟩ => ⟨he, hw ▸ (by repeat (first | exact Below.refl _ _ | refine Below.drew ?_ | refine below_alloc ?_ _))⟩

def Zst : Array Value := #[.int .i64 0, .int .i64 0, .int .i64 0, .int .i64 0, .int .i64 0, .int .i64 0, .int .i64 0, .int .i64 0, .int .i64 0, .int .i64 0, .int .i64 0, .int .i64 0, .int .i64 0, .int .i64 0, .int .i64 0, .slice none 0 0, .int .i64 0, .bool false, .int .i64 0, .bool false, .int .i64 0, .bool false, .int .i64 0, .bool false, .int .i64 0, .int .u64 0, .int .i64 0, .bool false, .int .i64 0, .bool false, .int .i64 0, .bool false, .int .i64 0, .bool false, .int .i64 0, .int .u64 0, .int .i64 0, .int .u64 0, .int .u64 0, .int .i64 0, .int .u64 0, .int .u64 0, .int .i64 0, .int .u64 0, .int .u64 0, .int .i64 0, .int .u64 0, .int .u64 0, .int .i64 0, .int .u64 0, .int .u64 0, .int .i64 0, .int .u64 0, .int .u64 0, .int .i64 0, .int .u64 0, .int .u64 0, .int .i64 0, .int .u64 0, .int .u64 0, .slice none 0 0, .slice none 0 0, .slice none 0 0]

def St (q : Value) : Array Value := #[.int .i64 1, .int .i64 1, .int .i64 0, .int .i64 0, .int .i64 0, .int .i64 0, .int .i64 0, .int .i64 0, .int .i64 0, .int .i64 0, .int .i64 2, .int .i64 1, .int .i64 1, .int .i64 0, .int .i64 0, .slice none 0 0, .int .i64 0, .bool false, .int .i64 0, .bool false, .int .i64 0, .bool false, .int .i64 0, .bool false, .int .i64 0, .int .u64 0, .int .i64 0, .bool false, .int .i64 0, .bool false, .int .i64 0, .bool false, .int .i64 0, .bool false, .int .i64 0, .int .u64 0, .int .i64 0, .int .u64 0, .int .u64 0, .int .i64 0, .int .u64 0, .int .u64 0, .int .i64 0, .int .u64 0, .int .u64 0, .int .i64 0, .int .u64 0, .int .u64 0, .int .i64 0, .int .u64 0, .int .u64 0, .int .i64 0, .int .u64 0, .int .u64 0, .int .i64 0, .int .u64 0, .int .u64 0, .int .i64 0, .int .u64 0, .int .u64 0, q, .slice none 0 0, .slice none 0 0]
theorem St_size (q : Value) : (St q).size = 63 := rfl
theorem St_0 (q : Value) : (St q)[0]? = some (.int .i64 1) := rfl
theorem St_1 (q : Value) : (St q)[1]? = some (.int .i64 1) := rfl
theorem St_2 (q : Value) : (St q)[2]? = some (.int .i64 0) := rfl
theorem St_3 (q : Value) : (St q)[3]? = some (.int .i64 0) := rfl
theorem St_4 (q : Value) : (St q)[4]? = some (.int .i64 0) := rfl
theorem St_5 (q : Value) : (St q)[5]? = some (.int .i64 0) := rfl
theorem St_6 (q : Value) : (St q)[6]? = some (.int .i64 0) := rfl
theorem St_7 (q : Value) : (St q)[7]? = some (.int .i64 0) := rfl
theorem St_8 (q : Value) : (St q)[8]? = some (.int .i64 0) := rfl
theorem St_9 (q : Value) : (St q)[9]? = some (.int .i64 0) := rfl
theorem St_10 (q : Value) : (St q)[10]? = some (.int .i64 2) := rfl
theorem St_11 (q : Value) : (St q)[11]? = some (.int .i64 1) := rfl
theorem St_12 (q : Value) : (St q)[12]? = some (.int .i64 1) := rfl
theorem St_13 (q : Value) : (St q)[13]? = some (.int .i64 0) := rfl
theorem St_14 (q : Value) : (St q)[14]? = some (.int .i64 0) := rfl
theorem St_60 (q : Value) : (St q)[60]? = some (q) := rfl
theorem St_set (q q' : Value) : (St q).setIfInBounds 60 q' = St q' := rfl
theorem St_one (q : Value) (h : q.oneCell' = true) : (St q).all (·.oneCell') = true := by simp only [St]; simpa [Value.oneCell'] using h

attribute [local go_sem] St_0 St_1 St_2 St_3 St_4 St_5 St_6 St_7 St_8 St_9 St_10 St_11 St_12 St_13 St_14 St_60

theorem refusedS_push (q : Value) (w : World) : Calls Tryz.prog 44 #[.agg (St q), .int .i64 0, .agg #[.int .i64 6, .int .i64 0, .int .i64 0, .int .u64 1, .int .u64 0, .int .u64 0, .int .i64 0]] w fun e w' => e = .returned (.int .i64 0) ∧ Below w.heap.size w w' := refused_push q w

theorem maytS_push (q : Value) (w : World) : Calls Tryz.prog 48 #[.agg (St q), .bool true, .agg #[.int .i64 6, .int .i64 0, .int .i64 0, .int .u64 1, .int .u64 0, .int .u64 0, .int .i64 0], .agg #[.int .i64 0, .int .u64 0, .int .u64 0, .int .u64 0, .int .i64 0, .int .i64 0]] w fun e w' => e = .returned (.bool false) ∧ Below w.heap.size w w' := mayt_push q w

theorem refusedS_pop (q : Value) (w : World) : Calls Tryz.prog 44 #[.agg (St q), .int .i64 0, .agg #[.int .i64 7, .int .i64 0, .int .i64 0, .int .u64 0, .int .u64 0, .int .u64 0, .int .i64 0]] w fun e w' => e = .returned (.int .i64 0) ∧ Below w.heap.size w w' := refused_pop q w

theorem maytS_pop (q : Value) (w : World) : Calls Tryz.prog 48 #[.agg (St q), .bool true, .agg #[.int .i64 7, .int .i64 0, .int .i64 0, .int .u64 0, .int .u64 0, .int .u64 0, .int .i64 0], .agg #[.int .i64 0, .int .u64 1, .int .u64 0, .int .u64 0, .int .i64 0, .int .i64 0]] w fun e w' => e = .returned (.bool false) ∧ Below w.heap.size w w' := mayt_pop q w

set_option maxHeartbeats 4000000 in
set_option maxRecDepth 100000 in
theorem line_pop_a (g : Nat) (w : World) (e0 : w.cell? ⟨g, 0, none⟩ = some (.int .u64 1)) (e1 : w.cell? ⟨g, 1, none⟩ = some (.int .u64 0)) (hg : g < w.heap.size) : Calls Tryz.prog 75 #[.agg (St (.slice (some ⟨g, 0, none⟩) 1 1)), .agg #[.int .i64 7, .int .i64 0, .int .i64 0, .int .u64 0, .int .u64 0, .int .u64 0, .int .i64 0]] w fun e w' => e = .returned (.tuple #[.agg (St (.slice (some ⟨g, 0, none⟩) 0 0)), .agg #[.int .i64 0, .int .u64 1, .int .u64 0, .int .u64 0, .int .i64 0, .int .i64 0]]) ∧ Below w.heap.size w w' := by
  have e0_4 : ∀ o0 o1 o2 o3 : Obj, ((((w.alloc o0).alloc o1).alloc o2).alloc o3).cell? ⟨g, 0, none⟩ = some (.int .u64 1) := fun o0 o1 o2 o3 => by
    repeat (rw [World.cell?_alloc_lt _ _ ⟨g, 0, none⟩ (by simp only [World.size_alloc]; omega)])
    exact e0
  have e1_4 : ∀ o0 o1 o2 o3 : Obj, ((((w.alloc o0).alloc o1).alloc o2).alloc o3).cell? ⟨g, 1, none⟩ = some (.int .u64 0) := fun o0 o1 o2 o3 => by
    repeat (rw [World.cell?_alloc_lt _ _ ⟨g, 1, none⟩ (by simp only [World.size_alloc]; omega)])
    exact e1
  have p0 : ∀ o0 o1 o2 o3 : Obj, ((((w.alloc o0).alloc o1).alloc o2).alloc o3).heap.size = w.heap.size + 1 + 1 + 1 + 1 := fun _ _ _ _ => by simp
  go_enter Tryz.func75, Tryz.ntmps75
  go_wp2_with fail
  refine (pop_below_a g _ (e0_4 _ _ _ _) (e1_4 _ _ _ _) (by rw [p0]; omega)).mono ?_
  rintro e w1 ⟨rfl, hb1⟩
  have bs : w1.heap[w.heap.size]? = some (.cells (St (.slice (some ⟨g, 0, none⟩) 1 1)) 94) := blk_below hb1 (by simp only [World.size_alloc]; omega) (by repeat (first | (refine blk_new _ _ _ _ ?_; simp; done) | (refine blk_old _ _ _ ?_ ?_; simp only [World.size_alloc]; omega)))
  have cs := cell_blk bs
  have fs := frz_blk bs
  have ss := lt_blk bs
  have bc : w1.heap[w.heap.size + 1]? = some (.cells #[.int .i64 7, .int .i64 0, .int .i64 0, .int .u64 0, .int .u64 0, .int .u64 0, .int .i64 0] 33) := blk_below hb1 (by simp only [World.size_alloc]; omega) (by repeat (first | (refine blk_new _ _ _ _ ?_; simp; done) | (refine blk_old _ _ _ ?_ ?_; simp only [World.size_alloc]; omega)))
  have cc := cell_blk bc
  have fc := frz_blk bc
  have sc := lt_blk bc
  have bz : w1.heap[w.heap.size + 1 + 1]? = some (.cells Zst 94) := blk_below hb1 (by simp only [World.size_alloc]; omega) (by repeat (first | (refine blk_new _ _ _ _ ?_; simp; done) | (refine blk_old _ _ _ ?_ ?_; simp only [World.size_alloc]; omega)))
  have cz := cell_blk bz
  have fz := frz_blk bz
  have sz := lt_blk bz
  have ba : w1.heap[w.heap.size + 1 + 1 + 1]? = some (.cells #[.int .i64 0, .int .u64 0, .int .u64 0, .int .u64 0, .int .i64 0, .int .i64 0] 36) := blk_below hb1 (by simp only [World.size_alloc]; omega) (by repeat (first | (refine blk_new _ _ _ _ ?_; simp; done) | (refine blk_old _ _ _ ?_ ?_; simp only [World.size_alloc]; omega)))
  have ca := cell_blk ba
  have fa := frz_blk ba
  have sa := lt_blk ba
  clear p0 e0_4 e1_4 e0 e1
  go_wp2
  obtain ⟨w2, hw2⟩ : ∃ w2, w2 = ((w1.setCell ⟨w.heap.size, 60, none⟩ (.slice (some ⟨g, 0, none⟩) 0 0)).alloc (.cells #[.slice (some ⟨g, 0, none⟩) 0 0] 89)).alloc (.cells #[.int .u64 1, .int .u64 0] 31) := ⟨_, rfl⟩
  rw [← hw2]
  have zs : (w1.setCell ⟨w.heap.size, 60, none⟩ (.slice (some ⟨g, 0, none⟩) 0 0)).heap.size = w1.heap.size := by simp
  have b7 : w2.heap[w1.heap.size + 1]? = some (.cells #[.int .u64 1, .int .u64 0] 31) := by (subst hw2; refine blk_new _ _ _ _ ?_; simp)
  replace bs : w2.heap[w.heap.size]? = some (.cells (St (.slice (some ⟨g, 0, none⟩) 0 0)) 94) := by (subst hw2; refine blk_old _ _ _ ?_ (blk_old _ _ _ ?_ (blk_set _ _ _ _ bs)) <;> simp <;> omega)
  replace ba := (show w2.heap[_]? = _ from (by (subst hw2; refine blk_old _ _ _ ?_ (blk_old _ _ _ ?_ (blk_far _ _ _ _ _ ?_ ba)) <;> simp <;> omega)))
  replace bz := (show w2.heap[_]? = _ from (by (subst hw2; refine blk_old _ _ _ ?_ (blk_old _ _ _ ?_ (blk_far _ _ _ _ _ ?_ bz)) <;> simp <;> omega)))
  have hb2 : Below w.heap.size w1 w2 := by
    subst hw2
    exact Below.alloc (Below.alloc (Below.setCell (p := ⟨w.heap.size, 60, none⟩) (Below.refl w.heap.size w1) (Nat.le_refl _) _) (by rw [zs]; omega) _) (by rw [World.size_alloc, zs]; omega) _
  have sw : w.heap.size + 1 + 1 + 1 < w1.heap.size := sa
  clear hw2 zs cs cc cz ca fs fc fz fa sc bc
  have hS : w2.drew.heap[w.heap.size]? = some (.cells (St (.slice (some ⟨g, 0, none⟩) 0 0)) 94) ∧ w2.drew.heap[w1.heap.size + 1]? = some (.cells #[.int .u64 1, .int .u64 0] 31) := ⟨bs, b7⟩
  refine wp_region_held_drew (S := fun W => W.heap[w.heap.size]? = some (.cells (St (.slice (some ⟨g, 0, none⟩) 0 0)) 94) ∧ W.heap[w1.heap.size + 1]? = some (.cells #[.int .u64 1, .int .u64 0] 31)) (by kernel_rfl) hS (fun _ => ?_)
  refine wpAnyH_take (i := 0) (v := .agg (St (.slice (some ⟨g, 0, none⟩) 0 0))) rfl (by kernel_rfl) (by kernel_rfl) (by kernel_rfl) (fun _ _ _ h => h) (yields_row rfl 94 (.tmp 2) rfl _ rfl 94 _ _ (fun _ h => h.1) Tryz.underlying94 rfl (by kernel_rfl)) hS ?_
  refine wpAnyH_take (i := 1) (v := .agg #[.int .u64 1, .int .u64 0]) rfl (by kernel_rfl) (by kernel_rfl) (by kernel_rfl) (fun _ _ _ h => h) (yields_row rfl 31 (.tmp 7) rfl _ rfl 31 _ _ (fun _ h => h.2) Tryz.underlying31 rfl (by kernel_rfl)) hS ?_
  refine wpAnyH_take (i := 2) (v := .agg #[.int .i64 0, .int .u64 1, .int .u64 0, .int .u64 0, .int .i64 0, .int .i64 0]) rfl (by kernel_rfl) (by kernel_rfl) (by kernel_rfl) (fun _ _ _ h => h) (.inl ⟨rfl, fun _ _ => by kernel_rfl⟩) hS ?_
  refine held_one 3 rfl (by kernel_rfl) rfl (wp_store_row 94 (.tmp 4) (.tmp 38) rfl (w.heap.size + 1 + 1) (St (.slice (some ⟨g, 0, none⟩) 0 0)) rfl rfl 94 Zst bz (by kernel_rfl) rfl (St_one _ rfl) ⟨?_, ?_⟩)
  · exact ⟨(setRow_other _ _ _ _ (by omega)).trans hS.1, (setRow_other _ _ _ _ (by omega)).trans hS.2⟩
  refine held_one 4 rfl (by kernel_rfl) rfl (wp_store_row 36 (.tmp 5) (.tmp 40) rfl (w.heap.size + 1 + 1 + 1) #[.int .i64 0, .int .u64 1, .int .u64 0, .int .u64 0, .int .i64 0, .int .i64 0] rfl rfl 36 #[.int .i64 0, .int .u64 0, .int .u64 0, .int .u64 0, .int .i64 0, .int .i64 0] ((setRow_other _ _ _ _ (by omega)).trans ba) (by kernel_rfl) rfl (by simp [Value.oneCell']) ⟨?_, ?_⟩)
  · exact ⟨(setRow_other _ _ _ _ (by omega)).trans ((setRow_other _ _ _ _ (by omega)).trans hS.1), (setRow_other _ _ _ _ (by omega)).trans ((setRow_other _ _ _ _ (by omega)).trans hS.2)⟩
  have r0 : ((w2.drew.setRow (w.heap.size + 1 + 1) (St (.slice (some ⟨g, 0, none⟩) 0 0))).setRow (w.heap.size + 1 + 1 + 1) #[.int .i64 0, .int .u64 1, .int .u64 0, .int .u64 0, .int .i64 0, .int .i64 0]).heap[w.heap.size + 1 + 1]? = some (.cells (St (.slice (some ⟨g, 0, none⟩) 0 0)) 94) := (setRow_other _ _ _ _ (by omega)).trans (setRow_heap _ _ Zst _ 94 (0, 0) bz)
  have r1 : ((w2.drew.setRow (w.heap.size + 1 + 1) (St (.slice (some ⟨g, 0, none⟩) 0 0))).setRow (w.heap.size + 1 + 1 + 1) #[.int .i64 0, .int .u64 1, .int .u64 0, .int .u64 0, .int .i64 0, .int .i64 0]).heap[w.heap.size + 1 + 1 + 1]? = some (.cells #[.int .i64 0, .int .u64 1, .int .u64 0, .int .u64 0, .int .i64 0, .int .i64 0] 36) := setRow_heap _ _ #[.int .i64 0, .int .u64 0, .int .u64 0, .int .u64 0, .int .i64 0, .int .i64 0] _ 36 (0, 0) ((setRow_other _ _ _ _ (by omega)).trans ba)
  refine wpAnyH_done (by kernel_rfl) ?_ _
  clear bz ba bs b7 hS hg
  go_wp2
  have l0 := run_loadVar_row (P := Tryz.prog) _ _ _ 94 _ _ _ r0 Tryz.underlying94 rfl (by kernel_rfl)
  have l1 := run_loadVar_row (P := Tryz.prog) _ _ _ 36 _ _ _ r1 Tryz.underlying36 rfl (by kernel_rfl)
  exact bodyPost_ret (v := .tuple #[.agg (St (.slice (some ⟨g, 0, none⟩) 0 0)), .agg #[.int .i64 0, .int .u64 1, .int .u64 0, .int .u64 0, .int .i64 0, .int .i64 0]]) (by simp [results, Tryz.results75, asAddr, Act.put, l0, l1]) rfl ⟨rfl, below_setRow (below_setRow (Below.drew ((below_next (below_alloc (below_alloc (below_alloc (below_alloc (Below.refl _ _) _) _) _) _) hb1).trans hb2)) (by omega) _) (by omega) _⟩

set_option maxHeartbeats 4000000 in
set_option maxRecDepth 100000 in
theorem line_pop_b (g cap : Nat) (w : World) (hcap : 1 < cap) (e0 : w.cell? ⟨g, 0, none⟩ = some (.int .u64 1)) (e1 : w.cell? ⟨g, 1, none⟩ = some (.int .u64 0)) (hg : g < w.heap.size) : Calls Tryz.prog 75 #[.agg (St (.slice (some ⟨g, 0, none⟩) 1 cap)), .agg #[.int .i64 7, .int .i64 0, .int .i64 0, .int .u64 0, .int .u64 0, .int .u64 0, .int .i64 0]] w fun e w' => e = .returned (.tuple #[.agg (St (.slice (some ⟨g, 2, none⟩) 0 (cap - 1))), .agg #[.int .i64 0, .int .u64 1, .int .u64 0, .int .u64 0, .int .i64 0, .int .i64 0]]) ∧ Below w.heap.size w w' := by
  have e0_4 : ∀ o0 o1 o2 o3 : Obj, ((((w.alloc o0).alloc o1).alloc o2).alloc o3).cell? ⟨g, 0, none⟩ = some (.int .u64 1) := fun o0 o1 o2 o3 => by
    repeat (rw [World.cell?_alloc_lt _ _ ⟨g, 0, none⟩ (by simp only [World.size_alloc]; omega)])
    exact e0
  have e1_4 : ∀ o0 o1 o2 o3 : Obj, ((((w.alloc o0).alloc o1).alloc o2).alloc o3).cell? ⟨g, 1, none⟩ = some (.int .u64 0) := fun o0 o1 o2 o3 => by
    repeat (rw [World.cell?_alloc_lt _ _ ⟨g, 1, none⟩ (by simp only [World.size_alloc]; omega)])
    exact e1
  have p0 : ∀ o0 o1 o2 o3 : Obj, ((((w.alloc o0).alloc o1).alloc o2).alloc o3).heap.size = w.heap.size + 1 + 1 + 1 + 1 := fun _ _ _ _ => by simp
  go_enter Tryz.func75, Tryz.ntmps75
  go_wp2_with fail
  refine (pop_below_b g cap _ hcap (e0_4 _ _ _ _) (e1_4 _ _ _ _) (by rw [p0]; omega)).mono ?_
  rintro e w1 ⟨rfl, hb1⟩
  have bs : w1.heap[w.heap.size]? = some (.cells (St (.slice (some ⟨g, 0, none⟩) 1 cap)) 94) := blk_below hb1 (by simp only [World.size_alloc]; omega) (by repeat (first | (refine blk_new _ _ _ _ ?_; simp; done) | (refine blk_old _ _ _ ?_ ?_; simp only [World.size_alloc]; omega)))
  have cs := cell_blk bs
  have fs := frz_blk bs
  have ss := lt_blk bs
  have bc : w1.heap[w.heap.size + 1]? = some (.cells #[.int .i64 7, .int .i64 0, .int .i64 0, .int .u64 0, .int .u64 0, .int .u64 0, .int .i64 0] 33) := blk_below hb1 (by simp only [World.size_alloc]; omega) (by repeat (first | (refine blk_new _ _ _ _ ?_; simp; done) | (refine blk_old _ _ _ ?_ ?_; simp only [World.size_alloc]; omega)))
  have cc := cell_blk bc
  have fc := frz_blk bc
  have sc := lt_blk bc
  have bz : w1.heap[w.heap.size + 1 + 1]? = some (.cells Zst 94) := blk_below hb1 (by simp only [World.size_alloc]; omega) (by repeat (first | (refine blk_new _ _ _ _ ?_; simp; done) | (refine blk_old _ _ _ ?_ ?_; simp only [World.size_alloc]; omega)))
  have cz := cell_blk bz
  have fz := frz_blk bz
  have sz := lt_blk bz
  have ba : w1.heap[w.heap.size + 1 + 1 + 1]? = some (.cells #[.int .i64 0, .int .u64 0, .int .u64 0, .int .u64 0, .int .i64 0, .int .i64 0] 36) := blk_below hb1 (by simp only [World.size_alloc]; omega) (by repeat (first | (refine blk_new _ _ _ _ ?_; simp; done) | (refine blk_old _ _ _ ?_ ?_; simp only [World.size_alloc]; omega)))
  have ca := cell_blk ba
  have fa := frz_blk ba
  have sa := lt_blk ba
  clear p0 e0_4 e1_4 e0 e1
  go_wp2
  obtain ⟨w2, hw2⟩ : ∃ w2, w2 = ((w1.setCell ⟨w.heap.size, 60, none⟩ (.slice (some ⟨g, 2, none⟩) 0 (cap - 1))).alloc (.cells #[.slice (some ⟨g, 2, none⟩) 0 (cap - 1)] 89)).alloc (.cells #[.int .u64 1, .int .u64 0] 31) := ⟨_, rfl⟩
  rw [← hw2]
  have zs : (w1.setCell ⟨w.heap.size, 60, none⟩ (.slice (some ⟨g, 2, none⟩) 0 (cap - 1))).heap.size = w1.heap.size := by simp
  have b7 : w2.heap[w1.heap.size + 1]? = some (.cells #[.int .u64 1, .int .u64 0] 31) := by (subst hw2; refine blk_new _ _ _ _ ?_; simp)
  replace bs : w2.heap[w.heap.size]? = some (.cells (St (.slice (some ⟨g, 2, none⟩) 0 (cap - 1))) 94) := by (subst hw2; refine blk_old _ _ _ ?_ (blk_old _ _ _ ?_ (blk_set _ _ _ _ bs)) <;> simp <;> omega)
  replace ba := (show w2.heap[_]? = _ from (by (subst hw2; refine blk_old _ _ _ ?_ (blk_old _ _ _ ?_ (blk_far _ _ _ _ _ ?_ ba)) <;> simp <;> omega)))
  replace bz := (show w2.heap[_]? = _ from (by (subst hw2; refine blk_old _ _ _ ?_ (blk_old _ _ _ ?_ (blk_far _ _ _ _ _ ?_ bz)) <;> simp <;> omega)))
  have hb2 : Below w.heap.size w1 w2 := by
    subst hw2
    exact Below.alloc (Below.alloc (Below.setCell (p := ⟨w.heap.size, 60, none⟩) (Below.refl w.heap.size w1) (Nat.le_refl _) _) (by rw [zs]; omega) _) (by rw [World.size_alloc, zs]; omega) _
  have sw : w.heap.size + 1 + 1 + 1 < w1.heap.size := sa
  clear hw2 zs cs cc cz ca fs fc fz fa sc bc
  have hS : w2.drew.heap[w.heap.size]? = some (.cells (St (.slice (some ⟨g, 2, none⟩) 0 (cap - 1))) 94) ∧ w2.drew.heap[w1.heap.size + 1]? = some (.cells #[.int .u64 1, .int .u64 0] 31) := ⟨bs, b7⟩
  refine wp_region_held_drew (S := fun W => W.heap[w.heap.size]? = some (.cells (St (.slice (some ⟨g, 2, none⟩) 0 (cap - 1))) 94) ∧ W.heap[w1.heap.size + 1]? = some (.cells #[.int .u64 1, .int .u64 0] 31)) (by kernel_rfl) hS (fun _ => ?_)
  refine wpAnyH_take (i := 0) (v := .agg (St (.slice (some ⟨g, 2, none⟩) 0 (cap - 1)))) rfl (by kernel_rfl) (by kernel_rfl) (by kernel_rfl) (fun _ _ _ h => h) (yields_row rfl 94 (.tmp 2) rfl _ rfl 94 _ _ (fun _ h => h.1) Tryz.underlying94 rfl (by kernel_rfl)) hS ?_
  refine wpAnyH_take (i := 1) (v := .agg #[.int .u64 1, .int .u64 0]) rfl (by kernel_rfl) (by kernel_rfl) (by kernel_rfl) (fun _ _ _ h => h) (yields_row rfl 31 (.tmp 7) rfl _ rfl 31 _ _ (fun _ h => h.2) Tryz.underlying31 rfl (by kernel_rfl)) hS ?_
  refine wpAnyH_take (i := 2) (v := .agg #[.int .i64 0, .int .u64 1, .int .u64 0, .int .u64 0, .int .i64 0, .int .i64 0]) rfl (by kernel_rfl) (by kernel_rfl) (by kernel_rfl) (fun _ _ _ h => h) (.inl ⟨rfl, fun _ _ => by kernel_rfl⟩) hS ?_
  refine held_one 3 rfl (by kernel_rfl) rfl (wp_store_row 94 (.tmp 4) (.tmp 38) rfl (w.heap.size + 1 + 1) (St (.slice (some ⟨g, 2, none⟩) 0 (cap - 1))) rfl rfl 94 Zst bz (by kernel_rfl) rfl (St_one _ rfl) ⟨?_, ?_⟩)
  · exact ⟨(setRow_other _ _ _ _ (by omega)).trans hS.1, (setRow_other _ _ _ _ (by omega)).trans hS.2⟩
  refine held_one 4 rfl (by kernel_rfl) rfl (wp_store_row 36 (.tmp 5) (.tmp 40) rfl (w.heap.size + 1 + 1 + 1) #[.int .i64 0, .int .u64 1, .int .u64 0, .int .u64 0, .int .i64 0, .int .i64 0] rfl rfl 36 #[.int .i64 0, .int .u64 0, .int .u64 0, .int .u64 0, .int .i64 0, .int .i64 0] ((setRow_other _ _ _ _ (by omega)).trans ba) (by kernel_rfl) rfl (by simp [Value.oneCell']) ⟨?_, ?_⟩)
  · exact ⟨(setRow_other _ _ _ _ (by omega)).trans ((setRow_other _ _ _ _ (by omega)).trans hS.1), (setRow_other _ _ _ _ (by omega)).trans ((setRow_other _ _ _ _ (by omega)).trans hS.2)⟩
  have r0 : ((w2.drew.setRow (w.heap.size + 1 + 1) (St (.slice (some ⟨g, 2, none⟩) 0 (cap - 1)))).setRow (w.heap.size + 1 + 1 + 1) #[.int .i64 0, .int .u64 1, .int .u64 0, .int .u64 0, .int .i64 0, .int .i64 0]).heap[w.heap.size + 1 + 1]? = some (.cells (St (.slice (some ⟨g, 2, none⟩) 0 (cap - 1))) 94) := (setRow_other _ _ _ _ (by omega)).trans (setRow_heap _ _ Zst _ 94 (0, 0) bz)
  have r1 : ((w2.drew.setRow (w.heap.size + 1 + 1) (St (.slice (some ⟨g, 2, none⟩) 0 (cap - 1)))).setRow (w.heap.size + 1 + 1 + 1) #[.int .i64 0, .int .u64 1, .int .u64 0, .int .u64 0, .int .i64 0, .int .i64 0]).heap[w.heap.size + 1 + 1 + 1]? = some (.cells #[.int .i64 0, .int .u64 1, .int .u64 0, .int .u64 0, .int .i64 0, .int .i64 0] 36) := setRow_heap _ _ #[.int .i64 0, .int .u64 0, .int .u64 0, .int .u64 0, .int .i64 0, .int .i64 0] _ 36 (0, 0) ((setRow_other _ _ _ _ (by omega)).trans ba)
  refine wpAnyH_done (by kernel_rfl) ?_ _
  clear bz ba bs b7 hS hg
  go_wp2
  have l0 := run_loadVar_row (P := Tryz.prog) _ _ _ 94 _ _ _ r0 Tryz.underlying94 rfl (by kernel_rfl)
  have l1 := run_loadVar_row (P := Tryz.prog) _ _ _ 36 _ _ _ r1 Tryz.underlying36 rfl (by kernel_rfl)
  exact bodyPost_ret (v := .tuple #[.agg (St (.slice (some ⟨g, 2, none⟩) 0 (cap - 1))), .agg #[.int .i64 0, .int .u64 1, .int .u64 0, .int .u64 0, .int .i64 0, .int .i64 0]]) (by simp [results, Tryz.results75, asAddr, Act.put, l0, l1]) rfl ⟨rfl, below_setRow (below_setRow (Below.drew ((below_next (below_alloc (below_alloc (below_alloc (below_alloc (Below.refl _ _) _) _) _) _) hb1).trans hb2)) (by omega) _) (by omega) _⟩

end Go.Proofs.YtphbnfjamclmjaaGreatDoor
