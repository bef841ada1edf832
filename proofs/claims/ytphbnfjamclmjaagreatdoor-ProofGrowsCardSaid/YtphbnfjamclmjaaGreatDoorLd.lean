import Derived.Test.YtphbnfjamclmjaaGreatDoorLc
import Derived.Deep.RegionLaw
import Derived.Deep.RegionLawGrows
import Derived.Laws.AppendOwn
import Derived.Deep.RegionHeld3
namespace Go.Proofs.YtphbnfjamclmjaaGreatDoor
open Go.RowKit Go.Sort
set_option linter.unusedVariables false
set_option linter.unusedSimpArgs false

def PushPost (w : World) (e : Ending) (w' : World) : Prop := ∃ b cap : Nat, e = .returned (.agg #[.slice (some ⟨b, 0, none⟩) 1 cap]) ∧ 1 ≤ cap ∧ w.heap.size ≤ b ∧ b < w'.heap.size ∧ w'.cell? ⟨b, 0, none⟩ = some (.int .u64 1) ∧ w'.cell? ⟨b, 1, none⟩ = some (.int .u64 0) ∧ Below w.heap.size w w'
theorem hc2 (W : World) (b : Nat) (x y : Value) (h0 : W.cell? ⟨b, 0, none⟩ = some x) (h1 : W.cell? ⟨b, 1, none⟩ = some y) : ∀ j u, [x, y][j]? = some u → W.cell? ((⟨b, 0, none⟩ : Addr).add j) = some u := by
  intro j u hj
  rcases j with _ | _ | j
  · simp at hj; subst hj; exact h0
  · simp at hj; subst hj; exact h1
  · simp at hj
theorem own2 {w : World} {B : Nat} {v x y : Value} (h : w.ownsRow B 31 2 v 1 [x, y]) : ∃ g cap, v = .slice (some ⟨g, 0, none⟩) 1 cap ∧ 1 ≤ cap ∧ B ≤ g ∧ g < w.heap.size ∧ w.cell? ⟨g, 0, none⟩ = some x ∧ w.cell? ⟨g, 1, none⟩ = some y := by
  obtain ⟨_, ⟨_, h0⟩ | ⟨g, cap, cur, rfl, hB, hh, hn, _, hs, ht⟩⟩ := h
  · omega
  · have hl : g < w.heap.size := by
      rcases Nat.lt_or_ge g w.heap.size with h | h
      · exact h
      · simp [Array.getElem?_eq_none h] at hh
    have e0 : cur[0]? = some x := by
      have := congrArg (fun l : List Value => l[0]?) ht
      simpa [List.getElem?_take] using this
    have e1 : cur[1]? = some y := by
      have := congrArg (fun l : List Value => l[1]?) ht
      simpa [List.getElem?_take] using this
    exact ⟨g, cap, rfl, hn, hB, hl, by simp [World.cell?, hh, e0], by simp [World.cell?, hh, e1]⟩
theorem info31q : (Tryz.prog.info? 31).map (fun i => (i.zero, i.size, i.bytes)) = some (some (.agg #[(.int .u64 0), (.int .u64 0)]), 2, 16) := by kernel_rfl

set_option maxHeartbeats 4000000 in
set_option maxRecDepth 100000 in
theorem push_1 (w : World) : Calls Tryz.prog 112 #[.agg #[.slice none 0 0], .agg #[.int .u64 1, .int .u64 0]] w (PushPost w) := by
  obtain ⟨i0, hi, hz0, hz1, hz2⟩ := info_parts info31q
  go_enter Tryz.func112, Tryz.ntmps112
  go_wp2
  have q0 : ∀ off, ((((w.alloc (.cells #[.slice none 0 0] 89)).alloc (.cells #[.int .u64 1, .int .u64 0] 31)).alloc (.cells #[.slice none 0 0] 89)).alloc (.cells #[.int .u64 1, .int .u64 0] 31)).cell? ⟨w.heap.size + 1 + 1, off, none⟩ = (#[.slice none 0 0] : Array Value)[off]? := by repeat (first | exact cells_new _ _ _ _ (by simp) | refine cells_old _ _ _ (by simp only [World.size_alloc]; omega) ?_)
  have q1 : ∀ off, ((((w.alloc (.cells #[.slice none 0 0] 89)).alloc (.cells #[.int .u64 1, .int .u64 0] 31)).alloc (.cells #[.slice none 0 0] 89)).alloc (.cells #[.int .u64 1, .int .u64 0] 31)).frozen? ⟨w.heap.size + 1 + 1, off, none⟩ = false := by repeat (first | (refine frozen_new _ _ _ _ ?_; simp; done) | (refine frozen_old _ _ _ ?_ ?_; simp only [World.size_alloc]; omega))
  go_region_law (refine step_append_grows rfl (.tmp 13) (.tmp 15) 66 rfl 31 i0 (.agg #[.int .u64 0, .int .u64 0]) 2 16 Tryz.underlying66 hi hz0 hz1 hz2 rfl (by decide) none 0 0 [] (by simp [Act.eval, Act.put]) (fun _ => ⟨rfl, rfl⟩) rfl (fun _ h => by cases h) ⟨w.heap.size + 1 + 1 + 1, 0, none⟩ 1 1 [.int .u64 1, .int .u64 0] (by simp [Act.eval, Act.put]) rfl (hc2 _ _ _ _ (by go_simp) (by go_simp)) (by simp [Value.oneCell']) (by omega) (by unfold maxLen; omega) (by omega) ?_; intro v' w1 hown hgrow; obtain ⟨g, cap, rfl, hcap, hg, hg2, e0, e1⟩ := own2 hown; have hb := Below.grown (Below.refl _ _) hgrow (Nat.le_refl _) (fun _ h => by cases h); have c0 := cells_below (b := w.heap.size + 1 + 1) hb (by simp) q0; have f0 := frozen_below (b := w.heap.size + 1 + 1) hb (by simp) q1; clear hown hgrow)
  all_goals
    have hgs : w.heap.size + 1 + 1 < g := by simp at hg; omega
    have h1 : (w1.setCell ⟨w.heap.size + 1 + 1, 0, none⟩ (.slice (some ⟨g, 0, none⟩) 1 cap)).cell? ⟨w.heap.size + 1 + 1, 0, none⟩ = some (.slice (some ⟨g, 0, none⟩) 1 cap) := by
      have h := c0 0
      go_simp
    clear c0 f0 q0 q1
    go_wp2
    refine bodyPost_ret (v := .agg #[.slice (some ⟨g, 0, none⟩) 1 cap]) (by simp [results, Tryz.results112, go_sem, h1]) rfl ⟨g, cap, rfl, hcap, by omega, by simpa using hg2, ?_, ?_, ?_⟩
    · rw [World.cell?_setCell_far _ _ _ _ (by simp; omega)]; exact e0
    · rw [World.cell?_setCell_far _ _ _ _ (by simp; omega)]; exact e1
    · exact Below.setCell (below_next (Below.drew (below_alloc (below_alloc (below_alloc (below_alloc (Below.refl _ _) _) _) _) _)) hb) (by simp; omega) _

set_option maxHeartbeats 4000000 in
set_option maxRecDepth 100000 in
theorem peek_nil_x (w : World) : Calls Tryz.prog 139 #[.agg #[.slice none 0 0]] w fun e w' => e = .returned (.tuple #[.agg #[.int .u64 0, .int .u64 0], .bool false]) ∧ w' = ((w.alloc (.cells #[.slice none 0 0] 89)).alloc (.cells #[.int .u64 0, .int .u64 0] 31)).alloc (.cells #[.int .u64 0, .int .u64 0] 31) := by
  go_enter Tryz.func139, Tryz.ntmps139
  go_wp2
  exact bodyPost_ret (v := .tuple #[.agg #[.int .u64 0, .int .u64 0], .bool false]) (by simp [results, Tryz.results139, go_sem]) rfl ⟨rfl, rfl⟩

set_option maxHeartbeats 4000000 in
set_option maxRecDepth 100000 in
theorem peek_one_x (g cap : Nat) (w : World) (hcap : 1 ≤ cap) (e0 : w.cell? ⟨g, 0, none⟩ = some (.int .u64 1)) (e1 : w.cell? ⟨g, 1, none⟩ = some (.int .u64 0)) (hg : g < w.heap.size) : Calls Tryz.prog 139 #[.agg #[.slice (some ⟨g, 0, none⟩) 1 cap]] w fun e w' => e = .returned (.tuple #[.agg #[.int .u64 1, .int .u64 0], .bool true]) ∧ w' = ((w.alloc (.cells #[.slice (some ⟨g, 0, none⟩) 1 cap] 89)).alloc (.cells #[.int .u64 1, .int .u64 0] 31)).alloc (.cells #[.int .u64 0, .int .u64 0] 31) := by
  have e0_3 : ∀ o0 o1 o2 : Obj, (((w.alloc o0).alloc o1).alloc o2).cell? ⟨g, 0, none⟩ = some (.int .u64 1) := fun o0 o1 o2 => by
    repeat (rw [World.cell?_alloc_lt _ _ ⟨g, 0, none⟩ (by simp only [World.size_alloc]; omega)])
    exact e0
  have e1_3 : ∀ o0 o1 o2 : Obj, (((w.alloc o0).alloc o1).alloc o2).cell? ⟨g, 1, none⟩ = some (.int .u64 0) := fun o0 o1 o2 => by
    repeat (rw [World.cell?_alloc_lt _ _ ⟨g, 1, none⟩ (by simp only [World.size_alloc]; omega)])
    exact e1
  go_enter Tryz.func139, Tryz.ntmps139
  go_wp2
  exact bodyPost_ret (v := .tuple #[.agg #[.int .u64 1, .int .u64 0], .bool true]) (by simp [results, Tryz.results139, go_sem]) rfl ⟨rfl, rfl⟩

set_option maxHeartbeats 4000000 in
set_option maxRecDepth 100000 in
theorem peek_nil (w : World) : Calls Tryz.prog 139 #[.agg #[.slice none 0 0]] w fun e w' => e = .returned (.tuple #[.agg #[.int .u64 0, .int .u64 0], .bool false]) ∧ Below w.heap.size w w' := by
  go_enter Tryz.func139, Tryz.ntmps139
  go_wp2
  exact bodyPost_ret (v := .tuple #[.agg #[.int .u64 0, .int .u64 0], .bool false]) (by simp [results, Tryz.results139, go_sem]) rfl ⟨rfl, (below_alloc (below_alloc (below_alloc (Below.refl _ _) _) _) _)⟩

set_option maxHeartbeats 4000000 in
set_option maxRecDepth 100000 in
theorem peek_one (g cap : Nat) (w : World) (hcap : 1 ≤ cap) (e0 : w.cell? ⟨g, 0, none⟩ = some (.int .u64 1)) (e1 : w.cell? ⟨g, 1, none⟩ = some (.int .u64 0)) (hg : g < w.heap.size) : Calls Tryz.prog 139 #[.agg #[.slice (some ⟨g, 0, none⟩) 1 cap]] w fun e w' => e = .returned (.tuple #[.agg #[.int .u64 1, .int .u64 0], .bool true]) ∧ Below w.heap.size w w' := by
  have e0_3 : ∀ o0 o1 o2 : Obj, (((w.alloc o0).alloc o1).alloc o2).cell? ⟨g, 0, none⟩ = some (.int .u64 1) := fun o0 o1 o2 => by
    repeat (rw [World.cell?_alloc_lt _ _ ⟨g, 0, none⟩ (by simp only [World.size_alloc]; omega)])
    exact e0
  have e1_3 : ∀ o0 o1 o2 : Obj, (((w.alloc o0).alloc o1).alloc o2).cell? ⟨g, 1, none⟩ = some (.int .u64 0) := fun o0 o1 o2 => by
    repeat (rw [World.cell?_alloc_lt _ _ ⟨g, 1, none⟩ (by simp only [World.size_alloc]; omega)])
    exact e1
  go_enter Tryz.func139, Tryz.ntmps139
  go_wp2
  exact bodyPost_ret (v := .tuple #[.agg #[.int .u64 1, .int .u64 0], .bool true]) (by simp [results, Tryz.results139, go_sem]) rfl ⟨rfl, (below_alloc (below_alloc (below_alloc (Below.refl _ _) _) _) _)⟩

set_option maxHeartbeats 4000000 in
set_option maxRecDepth 100000 in
theorem pop_nil (w : World) : Calls Tryz.prog 113 #[.agg #[.slice none 0 0]] w fun e w' => e = .returned (.tuple #[.agg #[.slice none 0 0], .agg #[.int .u64 0, .int .u64 0], .bool false]) ∧ Below w.heap.size w w' := by
  go_enter Tryz.func113, Tryz.ntmps113
  go_wp2_with fail
  refine (peek_nil_x _).mono ?_
  rintro e w' ⟨rfl, rfl⟩
  go_wp2
  go_region
  all_goals go_wp2
  all_goals exact bodyPost_ret (v := .tuple #[.agg #[.slice none 0 0], .agg #[.int .u64 0, .int .u64 0], .bool false]) (by simp [results, Tryz.results113, go_sem]) rfl ⟨rfl, (by repeat (first | exact Below.refl _ _ | refine Below.drew ?_ | refine below_alloc ?_ _))⟩

set_option maxHeartbeats 4000000 in
set_option maxRecDepth 100000 in
theorem pop_one_a (g : Nat) (w : World) (e0 : w.cell? ⟨g, 0, none⟩ = some (.int .u64 1)) (e1 : w.cell? ⟨g, 1, none⟩ = some (.int .u64 0)) (hg : g < w.heap.size)  : Calls Tryz.prog 113 #[.agg #[.slice (some ⟨g, 0, none⟩) 1 1]] w fun e w' => e = .returned (.tuple #[.agg #[.slice (some ⟨g, 0, none⟩) 0 0], .agg #[.int .u64 1, .int .u64 0], .bool true]) ∧ w' = (((((((w.alloc (.cells #[.slice (some ⟨g, 0, none⟩) 1 1] 89)).alloc (.cells #[.slice (some ⟨g, 0, none⟩) 0 0] 89)).alloc (.cells #[.int .u64 1, .int .u64 0] 31)).alloc (.cells #[.slice (some ⟨g, 0, none⟩) 1 1] 89)).alloc (.cells #[.int .u64 1, .int .u64 0] 31)).alloc (.cells #[.int .u64 0, .int .u64 0] 31)).alloc (.cells #[.int .u64 1, .int .u64 0] 31)).drew := by
  have e0_3 : ∀ o0 o1 o2 : Obj, (((w.alloc o0).alloc o1).alloc o2).cell? ⟨g, 0, none⟩ = some (.int .u64 1) := fun o0 o1 o2 => by
    repeat (rw [World.cell?_alloc_lt _ _ ⟨g, 0, none⟩ (by simp only [World.size_alloc]; omega)])
    exact e0
  have e1_3 : ∀ o0 o1 o2 : Obj, (((w.alloc o0).alloc o1).alloc o2).cell? ⟨g, 1, none⟩ = some (.int .u64 0) := fun o0 o1 o2 => by
    repeat (rw [World.cell?_alloc_lt _ _ ⟨g, 1, none⟩ (by simp only [World.size_alloc]; omega)])
    exact e1
  have p0 : ∀ o0 o1 o2 : Obj, (((w.alloc o0).alloc o1).alloc o2).heap.size = w.heap.size + 1 + 1 + 1 := fun _ _ _ => by simp
  go_enter Tryz.func113, Tryz.ntmps113
  go_wp2_with fail
  refine (peek_one_x g 1 _ (by omega) (e0_3 _ _ _) (e1_3 _ _ _) (by rw [p0]; omega)).mono ?_
  rintro e w' ⟨rfl, rfl⟩
  clear p0 e0_3 e1_3
  go_wp2
  go_region
  all_goals go_wp2
  all_goals exact bodyPost_ret (v := .tuple #[.agg #[.slice (some ⟨g, 0, none⟩) 0 0], .agg #[.int .u64 1, .int .u64 0], .bool true]) (by simp [results, Tryz.results113, go_sem]) rfl ⟨rfl, rfl⟩

set_option maxHeartbeats 4000000 in
set_option maxRecDepth 100000 in
theorem pop_one_b (g cap : Nat) (w : World) (hcap : 1 ≤ cap) (e0 : w.cell? ⟨g, 0, none⟩ = some (.int .u64 1)) (e1 : w.cell? ⟨g, 1, none⟩ = some (.int .u64 0)) (hg : g < w.heap.size) (hc1 : 1 < cap) : Calls Tryz.prog 113 #[.agg #[.slice (some ⟨g, 0, none⟩) 1 cap]] w fun e w' => e = .returned (.tuple #[.agg #[.slice (some ⟨g, 2, none⟩) 0 (cap - 1)], .agg #[.int .u64 1, .int .u64 0], .bool true]) ∧ w' = (((((((w.alloc (.cells #[.slice (some ⟨g, 0, none⟩) 1 cap] 89)).alloc (.cells #[.slice (some ⟨g, 2, none⟩) 0 (cap - 1)] 89)).alloc (.cells #[.int .u64 1, .int .u64 0] 31)).alloc (.cells #[.slice (some ⟨g, 0, none⟩) 1 cap] 89)).alloc (.cells #[.int .u64 1, .int .u64 0] 31)).alloc (.cells #[.int .u64 0, .int .u64 0] 31)).alloc (.cells #[.int .u64 1, .int .u64 0] 31)).drew := by
  have e0_3 : ∀ o0 o1 o2 : Obj, (((w.alloc o0).alloc o1).alloc o2).cell? ⟨g, 0, none⟩ = some (.int .u64 1) := fun o0 o1 o2 => by
    repeat (rw [World.cell?_alloc_lt _ _ ⟨g, 0, none⟩ (by simp only [World.size_alloc]; omega)])
    exact e0
  have e1_3 : ∀ o0 o1 o2 : Obj, (((w.alloc o0).alloc o1).alloc o2).cell? ⟨g, 1, none⟩ = some (.int .u64 0) := fun o0 o1 o2 => by
    repeat (rw [World.cell?_alloc_lt _ _ ⟨g, 1, none⟩ (by simp only [World.size_alloc]; omega)])
    exact e1
  have p0 : ∀ o0 o1 o2 : Obj, (((w.alloc o0).alloc o1).alloc o2).heap.size = w.heap.size + 1 + 1 + 1 := fun _ _ _ => by simp
  go_enter Tryz.func113, Tryz.ntmps113
  go_wp2_with fail
  refine (peek_one_x g cap _ (by omega) (e0_3 _ _ _) (e1_3 _ _ _) (by rw [p0]; omega)).mono ?_
  rintro e w' ⟨rfl, rfl⟩
  clear p0 e0_3 e1_3
  go_wp2
  go_region
  all_goals go_wp2
  all_goals exact bodyPost_ret (v := .tuple #[.agg #[.slice (some ⟨g, 2, none⟩) 0 (cap - 1)], .agg #[.int .u64 1, .int .u64 0], .bool true]) (by simp [results, Tryz.results113, go_sem]) rfl ⟨rfl, rfl⟩

set_option maxHeartbeats 4000000 in
set_option maxRecDepth 100000 in
theorem pop_nil_x (w : World) : Calls Tryz.prog 113 #[.agg #[.slice none 0 0]] w fun e w' => e = .returned (.tuple #[.agg #[.slice none 0 0], .agg #[.int .u64 0, .int .u64 0], .bool false]) ∧ w' = (((((((w.alloc (.cells #[.slice none 0 0] 89)).alloc (.cells #[.slice none 0 0] 89)).alloc (.cells #[.int .u64 0, .int .u64 0] 31)).alloc (.cells #[.slice none 0 0] 89)).alloc (.cells #[.int .u64 0, .int .u64 0] 31)).alloc (.cells #[.int .u64 0, .int .u64 0] 31)).alloc (.cells #[.int .u64 0, .int .u64 0] 31)).drew := by
  go_enter Tryz.func113, Tryz.ntmps113
  go_wp2_with fail
  refine (peek_nil_x _).mono ?_
  rintro e w' ⟨rfl, rfl⟩
  go_wp2
  go_region
  all_goals go_wp2
  all_goals exact bodyPost_ret (v := .tuple #[.agg #[.slice none 0 0], .agg #[.int .u64 0, .int .u64 0], .bool false]) (by simp [results, Tryz.results113, go_sem]) rfl ⟨rfl, rfl⟩

end Go.Proofs.YtphbnfjamclmjaaGreatDoor
