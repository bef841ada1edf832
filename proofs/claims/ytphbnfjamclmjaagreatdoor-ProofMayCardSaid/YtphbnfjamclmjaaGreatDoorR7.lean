import Derived.Test.YtphbnfjamclmjaaGreatDoorPProofMayx0
import Derived.Test.YtphbnfjamclmjaaGreatDoorPProofMayx6
namespace Go.Proofs.YtphbnfjamclmjaaGreatDoor.PProofMay
open Go.RowKit Go.Proofs.YtphbnfjamclmjaaGreatDoorW.PrintWords Go.Proofs.YtphbnfjamclmjaaGreatDoorW.PrintLast Go.Proofs.YtphbnfjamclmjaaGreatDoorW.PrintMore
attribute [local go_sem] max2_int min2_int max_two min_two max_three min_three max_four min_four   -- for this text's walks alone
set_option linter.unusedVariables false
set_option linter.unusedSimpArgs false

/-! ### burnbagref16_May: function 9 -/
mutual
def burnbagref16_May.l0 : Nat → List (S38) → List Int → Int → Option (Bool)
  | 0, _, _, _ => none
  | k + 1, x0, x1, x5 => if x5 < (x1.length : Int) then (if 0 ≤ x5 then (if (rd x1 x5) < 0 then (some false) else (if (rd x1 x5) ≥ (x0.length : Int) then (some false) else ((burnbagref16_in.f k x1 (rd x1 x5)).bind fun t193 => (if t193 = x5 then (burnbagref16_May.l0 k x0 x1 (wrap64 (x5 + 1))) else (some false))))) else (none)) else (burnbagref16_May.l1 k x0 x1 0)
def burnbagref16_May.l1 : Nat → List (S38) → List Int → Int → Option (Bool)
  | 0, _, _, _ => none
  | k + 1, x0, x1, x6 => if x6 < (x0.length : Int) then ((burnbagref16_in.f k x1 x6).bind fun t194 => (if t194 < 0 then (if 0 ≤ x6 then (burnbagref16_May.j2 k x0 x1 x6 t194 (decide (((rd_T38 x0 x6).f4) ≥ 0))) else (none)) else (burnbagref16_May.j2 k x0 x1 x6 t194 false))) else (some true)
def burnbagref16_May.j2 : Nat → List (S38) → List Int → Int → Int → Bool → Option (Bool)
  | 0, _, _, _, _, _ => none
  | k + 1, x0, x1, x6, x7, x57 => if x57 = true then (some false) else (burnbagref16_May.l2 k x0 x1 x6 x7 0)
def burnbagref16_May.l2 : Nat → List (S38) → List Int → Int → Int → Int → Option (Bool)
  | 0, _, _, _, _, _ => none
  | k + 1, x0, x1, x6, x7, x8 => if x8 < (x1.length : Int) then (if 0 ≤ x6 then (if x6 < (x0.length : Int) then (if 0 ≤ x8 then (if 0 ≤ (rd x1 x8) then (if (rd x1 x8) < (x0.length : Int) then ((burnbagref14_Ahead.f ((rd_T38 x0 x6).f0) ((rd_T38 x0 x6).f1.f0) ((rd_T38 x0 x6).f1.f1) ((rd_T38 x0 x6).f1.f2) ((rd_T38 x0 x6).f1.f3.f0) ((rd_T38 x0 x6).f1.f3.f1) ((rd_T38 x0 x6).f1.f4) ((rd_T38 x0 x6).f1.f5) ((rd_T38 x0 x6).f2.f0) ((rd_T38 x0 x6).f2.f1.f0) ((rd_T38 x0 x6).f2.f1.f1) ((rd_T38 x0 x6).f2.f2) ((rd_T38 x0 x6).f2.f3) ((rd_T38 x0 x6).f2.f4) ((rd_T38 x0 x6).f3) ((rd_T38 x0 x6).f4) ((rd_T38 x0 (rd x1 x8)).f0) ((rd_T38 x0 (rd x1 x8)).f1.f0) ((rd_T38 x0 (rd x1 x8)).f1.f1) ((rd_T38 x0 (rd x1 x8)).f1.f2) ((rd_T38 x0 (rd x1 x8)).f1.f3.f0) ((rd_T38 x0 (rd x1 x8)).f1.f3.f1) ((rd_T38 x0 (rd x1 x8)).f1.f4) ((rd_T38 x0 (rd x1 x8)).f1.f5) ((rd_T38 x0 (rd x1 x8)).f2.f0) ((rd_T38 x0 (rd x1 x8)).f2.f1.f0) ((rd_T38 x0 (rd x1 x8)).f2.f1.f1) ((rd_T38 x0 (rd x1 x8)).f2.f2) ((rd_T38 x0 (rd x1 x8)).f2.f3) ((rd_T38 x0 (rd x1 x8)).f2.f4) ((rd_T38 x0 (rd x1 x8)).f3) ((rd_T38 x0 (rd x1 x8)).f4)).bind fun t199 => (if t199 = true then (if x7 < 0 then (some false) else (if x7 > x8 then (some false) else (burnbagref16_May.l2 k x0 x1 x6 x7 (wrap64 (x8 + 1))))) else (burnbagref16_May.l2 k x0 x1 x6 x7 (wrap64 (x8 + 1))))) else (none)) else (none)) else (none)) else (none)) else (none)) else (burnbagref16_May.l1 k x0 x1 (wrap64 (x6 + 1)))
end
def burnbagref16_May.f (k : Nat) (l0 : List (S38)) (l1 : List Int) : Option (Bool) := burnbagref16_May.l0 k l0 l1 0
theorem burnbagref16_May.mono_l : ∀ k, (∀ y0 y1 y2, LeO (burnbagref16_May.l0 k y0 y1 y2) (burnbagref16_May.l0 (k + 1) y0 y1 y2)) ∧ (∀ y0 y1 y2, LeO (burnbagref16_May.l1 k y0 y1 y2) (burnbagref16_May.l1 (k + 1) y0 y1 y2)) ∧ (∀ y0 y1 y2 y3 y4, LeO (burnbagref16_May.j2 k y0 y1 y2 y3 y4) (burnbagref16_May.j2 (k + 1) y0 y1 y2 y3 y4)) ∧ (∀ y0 y1 y2 y3 y4, LeO (burnbagref16_May.l2 k y0 y1 y2 y3 y4) (burnbagref16_May.l2 (k + 1) y0 y1 y2 y3 y4))
  | 0 => ⟨fun _ _ _ r h => by simp [burnbagref16_May.l0] at h, fun _ _ _ r h => by simp [burnbagref16_May.l1] at h, fun _ _ _ _ _ r h => by simp [burnbagref16_May.j2] at h, fun _ _ _ _ _ r h => by simp [burnbagref16_May.l2] at h⟩
  | k + 1 => by
    obtain ⟨ih0, ih1, ih2, ih3⟩ := burnbagref16_May.mono_l k
    refine ⟨?_, ?_, ?_, ?_⟩
    · intro y0 y1 y2
      unfold burnbagref16_May.l0
      repeat' first
      | (with_reducible exact ih0 _ _ _)
      | (with_reducible exact ih1 _ _ _)
      | (with_reducible exact ih2 _ _ _ _ _)
      | (with_reducible exact ih3 _ _ _ _ _)
      | (with_reducible exact burnbagref16_in.mono _ _ _)
      | (with_reducible exact LeO.refl _)
      | (with_reducible exact LeO.none _)
      | (with_reducible refine LeO.ite ?_ ?_)
      | (with_reducible refine LeO.bind ?_ (fun _ => ?_))
      | exact ih0 _ _ _
      | exact ih1 _ _ _
      | exact ih2 _ _ _ _ _
      | exact ih3 _ _ _ _ _
      | exact burnbagref16_in.mono _ _ _
      | exact LeO.none _
      | refine LeO.ite ?_ ?_
      | refine LeO.bind ?_ (fun _ => ?_)
    · intro y0 y1 y2
      unfold burnbagref16_May.l1
      repeat' first
      | (with_reducible exact ih0 _ _ _)
      | (with_reducible exact ih1 _ _ _)
      | (with_reducible exact ih2 _ _ _ _ _)
      | (with_reducible exact ih3 _ _ _ _ _)
      | (with_reducible exact burnbagref16_in.mono _ _ _)
      | (with_reducible exact LeO.refl _)
      | (with_reducible exact LeO.none _)
      | (with_reducible refine LeO.ite ?_ ?_)
      | (with_reducible refine LeO.bind ?_ (fun _ => ?_))
      | exact ih0 _ _ _
      | exact ih1 _ _ _
      | exact ih2 _ _ _ _ _
      | exact ih3 _ _ _ _ _
      | exact burnbagref16_in.mono _ _ _
      | exact LeO.none _
      | refine LeO.ite ?_ ?_
      | refine LeO.bind ?_ (fun _ => ?_)
    · intro y0 y1 y2 y3 y4
      unfold burnbagref16_May.j2
      repeat' first
      | (with_reducible exact ih0 _ _ _)
      | (with_reducible exact ih1 _ _ _)
      | (with_reducible exact ih2 _ _ _ _ _)
      | (with_reducible exact ih3 _ _ _ _ _)
      | (with_reducible exact burnbagref16_in.mono _ _ _)
      | (with_reducible exact LeO.refl _)
      | (with_reducible exact LeO.none _)
      | (with_reducible refine LeO.ite ?_ ?_)
      | (with_reducible refine LeO.bind ?_ (fun _ => ?_))
      | exact ih0 _ _ _
      | exact ih1 _ _ _
      | exact ih2 _ _ _ _ _
      | exact ih3 _ _ _ _ _
      | exact burnbagref16_in.mono _ _ _
      | exact LeO.none _
      | refine LeO.ite ?_ ?_
      | refine LeO.bind ?_ (fun _ => ?_)
    · intro y0 y1 y2 y3 y4
      unfold burnbagref16_May.l2
      repeat' first
      | (with_reducible exact ih0 _ _ _)
      | (with_reducible exact ih1 _ _ _)
      | (with_reducible exact ih2 _ _ _ _ _)
      | (with_reducible exact ih3 _ _ _ _ _)
      | (with_reducible exact burnbagref16_in.mono _ _ _)
      | (with_reducible exact LeO.refl _)
      | (with_reducible exact LeO.none _)
      | (with_reducible refine LeO.ite ?_ ?_)
      | (with_reducible refine LeO.bind ?_ (fun _ => ?_))
      | exact ih0 _ _ _
      | exact ih1 _ _ _
      | exact ih2 _ _ _ _ _
      | exact ih3 _ _ _ _ _
      | exact burnbagref16_in.mono _ _ _
      | exact LeO.none _
      | refine LeO.ite ?_ ?_
      | refine LeO.bind ?_ (fun _ => ?_)
theorem burnbagref16_May.mono : ∀ a0 a1 k, LeO (burnbagref16_May.f k a0 a1) (burnbagref16_May.f (k + 1) a0 a1) := by
  intro a0 a1 k
  obtain ⟨ih0, ih1, ih2, ih3⟩ := burnbagref16_May.mono_l k
  unfold burnbagref16_May.f
  repeat' first
      | (with_reducible exact ih0 _ _ _)
      | (with_reducible exact ih1 _ _ _)
      | (with_reducible exact ih2 _ _ _ _ _)
      | (with_reducible exact ih3 _ _ _ _ _)
      | (with_reducible exact burnbagref16_in.mono _ _ _)
      | (with_reducible exact LeO.refl _)
      | (with_reducible exact LeO.none _)
      | (with_reducible refine LeO.ite ?_ ?_)
      | (with_reducible refine LeO.bind ?_ (fun _ => ?_))
      | exact ih0 _ _ _
      | exact ih1 _ _ _
      | exact ih2 _ _ _ _ _
      | exact ih3 _ _ _ _ _
      | exact burnbagref16_in.mono _ _ _
      | exact LeO.none _
      | refine LeO.ite ?_ ?_
      | refine LeO.bind ?_ (fun _ => ?_)
def burnbagref16_May.T15 : Bool × List (List Nat × List Nat) := (true, [([], []), ([], []), ([0, 1], [0, 1]), ([2], [2]), ([], []), ([], []), ([], []), ([5, 6], [5, 6]), ([7], [7]), ([4, 8], [4, 8]), ([9], [9]), ([3, 10], [3, 10]), ([11, 11], [11]), ([12], [12]), ([13, 12], [12, 13]), ([14, 12, 12], [12, 14]), ([15], [15]), ([15], [15]), ([16, 17, 15], [15, 16, 17]), ([15, 18, 12], [12, 15, 18]), ([12, 19], [12, 19])])
def burnbagref16_May.B15 : List Nat := [0, 0, 3, 7, 0, 0, 0, 96, 224, 496, 1008, 2047, 4095, 8191, 16383, 32767, 65535, 65535, 262143, 524287, 1048575]
theorem burnbagref16_May.tab15 : rtab .any (opsOf Tryz.f9 15) = burnbagref16_May.T15 := by kernel_rfl
theorem burnbagref16_May.bits15 : waitsOk burnbagref16_May.T15.2 burnbagref16_May.B15 = true := by kernel_rfl
set_option maxHeartbeats 8000000 in
set_option maxRecDepth 100000 in
theorem burnbagref16_May.calls (k : Nat) (A0 : Option Addr) (c0 : Nat) (l0 : List (S38)) (A1 : Option Addr) (c1 : Nat) (l1 : List Int) (r : Bool) (w : World) (hr0 : Kd.C k38 w A0 l0.length l0) (hc0 : l0.length ≤ c0) (hr1 : Kd.C (Kd.int .i64) w A1 l1.length l1) (hc1 : l1.length ≤ c1) (h : burnbagref16_May.f k l0 l1 = some r) :
    Calls Tryz.prog 9 #[.slice A0 l0.length c0, .slice A1 l1.length c1] w fun e w' => e = .returned (.bool r) ∧ Below w.heap.size w w' := by
  have hu38 := Tryz.underlying38
  have HR0 := Aside0.mk hr0
  have HC0 := Aside0.mk hc0
  clear hr0 hc0
  have HR1 := Aside0.mk hr1
  have HC1 := Aside0.mk hc1
  clear hr1 hc1
  have HB := Aside0.mk (Below.refl w.heap.size w)
  have H : (burnbagref16_May.l0 k l0 l1 0) = some r := h
  clear h
  have H' := Aside0.mk H
  clear H
  go_enter Tryz.func9, Tryz.ntmps9
  go_wp2
  go_loopg [5] k (fun kq v5 w' => ∃ (x5_1 : Int), v5 = .int .i64 x5_1 ∧ Aside0 (burnbagref16_May.l0 kq l0 l1 x5_1 = some r) ∧ Aside0 (kq ≤ k) ∧ Aside0 (Below w.heap.size w w'))
  case atStart => exact ⟨(0), (by first | rfl | (simp; done) | (simp [*]; done)), H', ⟨Nat.le_refl _⟩, ⟨by repeat (first | (with_reducible first | exact HB.out | apply below_alloc | apply pw_below_drewN | apply below_drew1) | exact HB.out)⟩⟩
  case round =>
    clear H'
    try clear c1
    try clear p2
    obtain ⟨x5_1, rfl, HA, HK1, HB⟩ := hrel
    cases gk with
    | zero => exact absurd HA.out (by simp [burnbagref16_May.l0])
    | succ k1 =>
      have H := HA.out
      clear HA
      simp only [burnbagref16_May.l0] at H
      by_cases c3 : x5_1 < (l1.length : Int)
      · rw [if_pos c3] at H
        have c3b0 : decide (x5_1 < (l1.length : Int)) = true := decide_eq_true c3
        clear c3
        by_cases c4 : 0 ≤ x5_1
        · rw [if_pos c4] at H
          have c4b0 : decide (0 ≤ x5_1) = true := decide_eq_true c4
          clear c4
          by_cases c5 : (rd l1 x5_1) < 0
          · as_aux_lemma =>
              rw [if_pos c5] at H
              have c5b0 : decide ((rd l1 x5_1) < 0) = true := decide_eq_true c5
              clear c5
              obtain rfl := Option.some.inj H
              have p190 : 0 ≤ (x5_1 : Int) := of_decide_eq_true (by first | (with_reducible assumption) | assumption)
              have q190 : x5_1 < (l1.length : Int) := of_decide_eq_true (by first | (with_reducible assumption) | assumption)
              obtain ⟨ad190, e190, hx190_0⟩ := Kd.at_int HR1.out x5_1 p190 q190
              cases e190
              replace hx190_0 := (HB.out.cell (World.block_lt_of_cell? w _ hx190_0)).trans hx190_0
              replace p190 := eq_true p190
              replace q190 := eq_true q190
              go_wp2
              go_ret
              exact ⟨by first | rfl | (simp [errW_none, errW_some] <;> rfl) | (simp [*, errW_none, errW_some] <;> rfl), by repeat (first | (with_reducible first | exact HB.out | apply below_alloc | apply pw_below_drewN | apply below_drew1) | exact HB.out)⟩
          · as_aux_lemma =>
              rw [if_neg c5] at H
              have c5b0 : decide ((rd l1 x5_1) < 0) = false := decide_eq_false c5
              clear c5
              by_cases c6 : (rd l1 x5_1) ≥ (l0.length : Int)
              · rw [if_pos c6] at H
                have c6b0 : decide ((l0.length : Int) ≤ (rd l1 x5_1)) = true := decide_eq_true c6
                clear c6
                obtain rfl := Option.some.inj H
                have p190 : 0 ≤ (x5_1 : Int) := of_decide_eq_true (by first | (with_reducible assumption) | assumption)
                have q190 : x5_1 < (l1.length : Int) := of_decide_eq_true (by first | (with_reducible assumption) | assumption)
                obtain ⟨ad190, e190, hx190_0⟩ := Kd.at_int HR1.out x5_1 p190 q190
                cases e190
                replace hx190_0 := (HB.out.cell (World.block_lt_of_cell? w _ hx190_0)).trans hx190_0
                replace p190 := eq_true p190
                replace q190 := eq_true q190
                have p191 : 0 ≤ (x5_1 : Int) := of_decide_eq_true (by first | (with_reducible assumption) | assumption)
                have q191 : x5_1 < (l1.length : Int) := of_decide_eq_true (by first | (with_reducible assumption) | assumption)
                obtain ⟨ad191, e191, hx191_0⟩ := Kd.at_int HR1.out x5_1 p191 q191
                obtain rfl : ad190 = ad191 := (by injection e191)
                replace hx191_0 := (HB.out.cell (World.block_lt_of_cell? w _ hx191_0)).trans hx191_0
                replace p191 := eq_true p191
                replace q191 := eq_true q191
                go_wp2
                go_ret
                exact ⟨by first | rfl | (simp [errW_none, errW_some] <;> rfl) | (simp [*, errW_none, errW_some] <;> rfl), by repeat (first | (with_reducible first | exact HB.out | apply below_alloc | apply pw_below_drewN | apply below_drew1) | exact HB.out)⟩
              · rw [if_neg c6] at H
                have c6b0 : decide ((l0.length : Int) ≤ (rd l1 x5_1)) = false := decide_eq_false c6
                clear c6
                replace H := Option.bind_eq_some_iff.mp H
                obtain ⟨t193, A70, H⟩ := H
                replace H : (if t193 = x5_1 then (burnbagref16_May.l0 k1 l0 l1 (wrap64 (x5_1 + 1))) else (some false)) = some r := H
                have A7 := Aside0.mk A70
                clear A70
                by_cases c8 : t193 = x5_1
                · as_aux_lemma =>
                    rw [if_pos c8] at H
                    have c8b0 : (t193 == x5_1) = true := beq_iff_eq.mpr c8
                    have c8b1 : (t193 != x5_1) = false := bne_eq_false_iff_eq.mpr c8
                    clear c8
                    have H' := Aside0.mk H
                    clear H
                    have p190 : 0 ≤ (x5_1 : Int) := of_decide_eq_true (by first | (with_reducible assumption) | assumption)
                    have q190 : x5_1 < (l1.length : Int) := of_decide_eq_true (by first | (with_reducible assumption) | assumption)
                    obtain ⟨ad190, e190, hx190_0⟩ := Kd.at_int HR1.out x5_1 p190 q190
                    cases e190
                    replace hx190_0 := (HB.out.cell (World.block_lt_of_cell? w _ hx190_0)).trans hx190_0
                    replace p190 := eq_true p190
                    replace q190 := eq_true q190
                    have p191 : 0 ≤ (x5_1 : Int) := of_decide_eq_true (by first | (with_reducible assumption) | assumption)
                    have q191 : x5_1 < (l1.length : Int) := of_decide_eq_true (by first | (with_reducible assumption) | assumption)
                    obtain ⟨ad191, e191, hx191_0⟩ := Kd.at_int HR1.out x5_1 p191 q191
                    obtain rfl : ad190 = ad191 := (by injection e191)
                    replace hx191_0 := (HB.out.cell (World.block_lt_of_cell? w _ hx191_0)).trans hx191_0
                    replace p191 := eq_true p191
                    replace q191 := eq_true q191
                    have p192 : 0 ≤ (x5_1 : Int) := of_decide_eq_true (by first | (with_reducible assumption) | assumption)
                    have q192 : x5_1 < (l1.length : Int) := of_decide_eq_true (by first | (with_reducible assumption) | assumption)
                    obtain ⟨ad192, e192, hx192_0⟩ := Kd.at_int HR1.out x5_1 p192 q192
                    obtain rfl : ad190 = ad192 := (by injection e192)
                    replace hx192_0 := (HB.out.cell (World.block_lt_of_cell? w _ hx192_0)).trans hx192_0
                    replace p192 := eq_true p192
                    replace q192 := eq_true q192
                    go_wp2_with (first | (go_at_call 22; (with_reducible refine (burnbagref16_in.calls k1 _ _ l1 (rd l1 x5_1) t193 _ ?side1 ?side2 A7.out).mono ?_); (case side1 => repeat (first | exact (Kd.C_below HR1.out HB.out) | (with_reducible refine Kd.C_alloc ?_ _) | (with_reducible refine Kd.C_drewN ?_ _) | (with_reducible refine Kd.C_drew ?_))); (case side2 => exact HC1.out); rintro e w' ⟨rfl, ⟨nd, rfl⟩⟩))
                    go_roundg k1
                    case measure => have := HK1.out; omega
                    case rel => exact ⟨(wrap64 (x5_1 + 1)), (by first | rfl | (simp; done) | (simp [*]; done)), H', ⟨by have := HK1.out; omega⟩, ⟨by repeat (first | (with_reducible first | exact HB.out | apply below_alloc | apply pw_below_drewN | apply below_drew1) | exact HB.out)⟩⟩
                · as_aux_lemma =>
                    rw [if_neg c8] at H
                    have c8b0 : (t193 == x5_1) = false := beq_eq_false_iff_ne.mpr c8
                    have c8b1 : (t193 != x5_1) = true := bne_iff_ne.mpr c8
                    obtain rfl := Option.some.inj H
                    have p190 : 0 ≤ (x5_1 : Int) := of_decide_eq_true (by first | (with_reducible assumption) | assumption)
                    have q190 : x5_1 < (l1.length : Int) := of_decide_eq_true (by first | (with_reducible assumption) | assumption)
                    obtain ⟨ad190, e190, hx190_0⟩ := Kd.at_int HR1.out x5_1 p190 q190
                    cases e190
                    replace hx190_0 := (HB.out.cell (World.block_lt_of_cell? w _ hx190_0)).trans hx190_0
                    replace p190 := eq_true p190
                    replace q190 := eq_true q190
                    have p191 : 0 ≤ (x5_1 : Int) := of_decide_eq_true (by first | (with_reducible assumption) | assumption)
                    have q191 : x5_1 < (l1.length : Int) := of_decide_eq_true (by first | (with_reducible assumption) | assumption)
                    obtain ⟨ad191, e191, hx191_0⟩ := Kd.at_int HR1.out x5_1 p191 q191
                    obtain rfl : ad190 = ad191 := (by injection e191)
                    replace hx191_0 := (HB.out.cell (World.block_lt_of_cell? w _ hx191_0)).trans hx191_0
                    replace p191 := eq_true p191
                    replace q191 := eq_true q191
                    have p192 : 0 ≤ (x5_1 : Int) := of_decide_eq_true (by first | (with_reducible assumption) | assumption)
                    have q192 : x5_1 < (l1.length : Int) := of_decide_eq_true (by first | (with_reducible assumption) | assumption)
                    obtain ⟨ad192, e192, hx192_0⟩ := Kd.at_int HR1.out x5_1 p192 q192
                    obtain rfl : ad190 = ad192 := (by injection e192)
                    replace hx192_0 := (HB.out.cell (World.block_lt_of_cell? w _ hx192_0)).trans hx192_0
                    replace p192 := eq_true p192
                    replace q192 := eq_true q192
                    go_wp2_with (first | (go_at_call 22; (with_reducible refine (burnbagref16_in.calls k1 _ _ l1 (rd l1 x5_1) t193 _ ?side1 ?side2 A7.out).mono ?_); (case side1 => repeat (first | exact (Kd.C_below HR1.out HB.out) | (with_reducible refine Kd.C_alloc ?_ _) | (with_reducible refine Kd.C_drewN ?_ _) | (with_reducible refine Kd.C_drew ?_))); (case side2 => exact HC1.out); rintro e w' ⟨rfl, ⟨nd, rfl⟩⟩))
                    go_ret
                    exact ⟨by first | rfl | (simp [errW_none, errW_some] <;> rfl) | (simp [*, errW_none, errW_some] <;> rfl), by repeat (first | (with_reducible first | exact HB.out | apply below_alloc | apply pw_below_drewN | apply below_drew1) | exact HB.out)⟩
        · rw [if_neg c4] at H
          exact absurd H (by simp)
      · rw [if_neg c3] at H
        have c3b0 : decide (x5_1 < (l1.length : Int)) = false := decide_eq_false c3
        clear c3
        have H' := Aside0.mk H
        clear H
        go_wp2
        go_loopg [6] k1 (fun kq v6 w' => ∃ (x6_2 : Int), v6 = .int .i64 x6_2 ∧ Aside0 (burnbagref16_May.l1 kq l0 l1 x6_2 = some r) ∧ Aside0 (kq ≤ k1) ∧ Aside0 (Below w.heap.size w w'))
        case atStart => exact ⟨(0), (by first | rfl | (simp; done) | (simp [*]; done)), H', ⟨Nat.le_refl _⟩, ⟨by repeat (first | (with_reducible first | exact HB.out | apply below_alloc | apply pw_below_drewN | apply below_drew1) | exact HB.out)⟩⟩
        case round =>
          clear H'
          try clear c1
          try clear p1
          try clear q1
          try clear hx1
          try clear p2
          try clear c3
          try clear c3b0
          try clear c4
          try clear c4b0
          try clear c5
          try clear c5b0
          try clear c6
          try clear c6b0
          try clear p6
          try clear c8
          try clear c8b0
          try clear c8b1
          try clear hx190_0
          try clear hx191_0
          try clear hx192_0
          try clear p190
          try clear p191
          try clear p192
          try clear p2
          try clear q190
          try clear q191
          try clear q192
          obtain ⟨x6_2, rfl, HA, HK2, HB⟩ := hrel
          cases gk with
          | zero => exact absurd HA.out (by simp [burnbagref16_May.l1])
          | succ k2 =>
            have H := HA.out
            clear HA
            simp only [burnbagref16_May.l1] at H
            by_cases c9 : x6_2 < (l0.length : Int)
            · rw [if_pos c9] at H
              have c9b0 : decide (x6_2 < (l0.length : Int)) = true := decide_eq_true c9
              clear c9
              replace H := Option.bind_eq_some_iff.mp H
              obtain ⟨t194, A100, H⟩ := H
              replace H : (if t194 < 0 then (if 0 ≤ x6_2 then (burnbagref16_May.j2 k2 l0 l1 x6_2 t194 (decide (((rd_T38 l0 x6_2).f4) ≥ 0))) else (none)) else (burnbagref16_May.j2 k2 l0 l1 x6_2 t194 false)) = some r := H
              have A10 := Aside0.mk A100
              clear A100
              have HC11 := Aside0.mk H
              clear H
              go_upto_region 10 with (first | ((with_reducible refine gate_callee (f := 22) rfl ?_); refine goesL_ (some 47) rfl rfl Tryz.func22 (by kernel_rfl) rfl #[.slice A1 l1.length c1, .int .i64 x6_2] rfl (by (try simp only [List.map_toArray, List.map_cons, List.map_nil]); first | done | rfl | (simp only [List.length_drop, List.length_take]; rfl)) ?_; (with_reducible refine (burnbagref16_in.calls k2 _ _ l1 x6_2 t194 _ ?side1 ?side2 A10.out).mono ?_); (case side1 => repeat (first | exact (Kd.C_below HR1.out HB.out) | (with_reducible refine Kd.C_alloc ?_ _) | (with_reducible refine Kd.C_drewN ?_ _) | (with_reducible refine Kd.C_drew ?_))); (case side2 => exact HC1.out); rintro e w' ⟨rfl, ⟨nd, rfl⟩⟩; refine ⟨_, rfl, ?_⟩))
              (try simp only [Act.put, List.setIfInBounds_toArray, List.set_cons_zero, List.set_cons_succ])
              go_cut [57] (fun v57 wc => ∃ (kq : Nat) (x57_10 : Bool), v57 = .bool x57_10 ∧ Aside0 (burnbagref16_May.j2 kq l0 l1 x6_2 t194 x57_10 = some r) ∧ Aside0 (kq ≤ k2) ∧ Aside0 (Below w.heap.size w wc))
              case first =>
                have H := HC11.out
                clear HC11
                by_cases c12 : t194 < 0
                · rw [if_pos c12] at H
                  have c12b0 : decide (t194 < 0) = true := decide_eq_true c12
                  clear c12
                  (first | rw [c12b0] | (simp only [i64_w, i32_w]; rw [c12b0]) | skip)
                  by_cases c13 : 0 ≤ x6_2
                  · rw [if_pos c13] at H
                    have c13b0 : decide (0 ≤ x6_2) = true := decide_eq_true c13
                    clear c13
                    have H' := Aside0.mk H
                    clear H
                    have p195 : 0 ≤ (x6_2 : Int) := of_decide_eq_true (by first | (with_reducible assumption) | assumption)
                    have q195 : x6_2 < (l0.length : Int) := of_decide_eq_true (by first | (with_reducible assumption) | assumption)
                    obtain ⟨ad195, e195, hx195_0, hx195_1, hx195_2, hx195_3, hx195_4, hx195_5, hx195_6, hx195_7, hx195_8, hx195_9, hx195_10, hx195_11, hx195_12, hx195_13, hx195_14, hx195_15⟩ := at_T38 HR0.out x6_2 p195 q195
                    cases e195
                    replace hx195_0 := (HB.out.cell (World.block_lt_of_cell? w _ hx195_0)).trans hx195_0
                    replace hx195_1 := (HB.out.cell (World.block_lt_of_cell? w _ hx195_1)).trans hx195_1
                    replace hx195_2 := (HB.out.cell (World.block_lt_of_cell? w _ hx195_2)).trans hx195_2
                    replace hx195_3 := (HB.out.cell (World.block_lt_of_cell? w _ hx195_3)).trans hx195_3
                    replace hx195_4 := (HB.out.cell (World.block_lt_of_cell? w _ hx195_4)).trans hx195_4
                    replace hx195_5 := (HB.out.cell (World.block_lt_of_cell? w _ hx195_5)).trans hx195_5
                    replace hx195_6 := (HB.out.cell (World.block_lt_of_cell? w _ hx195_6)).trans hx195_6
                    replace hx195_7 := (HB.out.cell (World.block_lt_of_cell? w _ hx195_7)).trans hx195_7
                    replace hx195_8 := (HB.out.cell (World.block_lt_of_cell? w _ hx195_8)).trans hx195_8
                    replace hx195_9 := (HB.out.cell (World.block_lt_of_cell? w _ hx195_9)).trans hx195_9
                    replace hx195_10 := (HB.out.cell (World.block_lt_of_cell? w _ hx195_10)).trans hx195_10
                    replace hx195_11 := (HB.out.cell (World.block_lt_of_cell? w _ hx195_11)).trans hx195_11
                    replace hx195_12 := (HB.out.cell (World.block_lt_of_cell? w _ hx195_12)).trans hx195_12
                    replace hx195_13 := (HB.out.cell (World.block_lt_of_cell? w _ hx195_13)).trans hx195_13
                    replace hx195_14 := (HB.out.cell (World.block_lt_of_cell? w _ hx195_14)).trans hx195_14
                    replace hx195_15 := (HB.out.cell (World.block_lt_of_cell? w _ hx195_15)).trans hx195_15
                    replace p195 := eq_true p195
                    replace q195 := eq_true q195
                    go_wp2
                    go_meet
                    case rel => exact ⟨_, (decide (((rd_T38 l0 x6_2).f4) ≥ 0)), (by first | rfl | (simp; done) | (simp [*]; done)), H', ⟨by have := HK1.out; have := HK2.out; first | omega | exact Nat.le_refl _⟩, ⟨by repeat (first | (with_reducible first | exact HB.out | apply below_alloc | apply pw_below_drewN | apply below_drew1) | exact HB.out)⟩⟩
                  · rw [if_neg c13] at H
                    exact absurd H (by simp)
                · rw [if_neg c12] at H
                  have c12b0 : decide (t194 < 0) = false := decide_eq_false c12
                  clear c12
                  (first | rw [c12b0] | (simp only [i64_w, i32_w]; rw [c12b0]) | skip)
                  have H' := Aside0.mk H
                  clear H
                  go_wp2
                  go_meet
                  case rel => exact ⟨_, (false), (by first | rfl | (simp; done) | (simp [*]; done)), H', ⟨by have := HK1.out; have := HK2.out; first | omega | exact Nat.le_refl _⟩, ⟨by repeat (first | (with_reducible first | exact HB.out | apply below_alloc | apply pw_below_drewN | apply below_drew1) | exact HB.out)⟩⟩
              case rest =>
                clear HC11
                try clear c1
                try clear p1
                try clear q1
                try clear hx1
                try clear c2
                try clear p2
                try clear c3
                try clear c3b0
                try clear c4
                try clear c4b0
                try clear c5
                try clear c5b0
                try clear c6
                try clear c6b0
                try clear p6
                try clear c8
                try clear c8b0
                try clear c8b1
                try clear c9
                try clear c9b0
                try clear c12
                try clear c12b0
                try clear c13
                try clear c13b0
                try clear hx190_0
                try clear hx191_0
                try clear hx192_0
                try clear hx195_0
                try clear hx195_1
                try clear hx195_10
                try clear hx195_11
                try clear hx195_12
                try clear hx195_13
                try clear hx195_14
                try clear hx195_15
                try clear hx195_2
                try clear hx195_3
                try clear hx195_4
                try clear hx195_5
                try clear hx195_6
                try clear hx195_7
                try clear hx195_8
                try clear hx195_9
                try clear p1
                try clear p190
                try clear p191
                try clear p192
                try clear p195
                try clear p2
                try clear p6
                try clear q1
                try clear q190
                try clear q191
                try clear q192
                try clear q195
                obtain ⟨kq, x57_10, rfl, HA, HJ10, HB⟩ := hcut
                cases kq with
                | zero => exact absurd HA.out (by simp [burnbagref16_May.j2])
                | succ kj10 =>
                  have H := HA.out
                  clear HA
                  simp only [burnbagref16_May.j2] at H
                  by_cases c14 : x57_10 = true
                  · subst c14
                    have H1 : (some false) = some r := by rw [if_pos rfl] at H; exact H
                    clear H
                    have H := H1
                    clear H1
                    obtain rfl := Option.some.inj H
                    go_wp2
                    go_ret
                    exact ⟨by first | rfl | (simp [errW_none, errW_some] <;> rfl) | (simp [*, errW_none, errW_some] <;> rfl), by repeat (first | (with_reducible first | exact HB.out | apply below_alloc | apply pw_below_drewN | apply below_drew1) | exact HB.out)⟩
                  · replace c14 := Bool.eq_false_iff.mpr c14
                    subst c14
                    have H1 : (burnbagref16_May.l2 kj10 l0 l1 x6_2 t194 0) = some r := by rw [if_neg (show ¬ (false = true) by decide)] at H; exact H
                    clear H
                    have H := H1
                    clear H1
                    have H' := Aside0.mk H
                    clear H
                    go_wp2
                    go_loopg [8] kj10 (fun kq v8 w' => ∃ (x8_4 : Int), v8 = .int .i64 x8_4 ∧ Aside0 (burnbagref16_May.l2 kq l0 l1 x6_2 t194 x8_4 = some r) ∧ Aside0 (kq ≤ kj10) ∧ Aside0 (Below w.heap.size w w'))
                    case atStart => exact ⟨(0), (by first | rfl | (simp; done) | (simp [*]; done)), H', ⟨Nat.le_refl _⟩, ⟨by repeat (first | (with_reducible first | exact HB.out | apply below_alloc | apply pw_below_drewN | apply below_drew1) | exact HB.out)⟩⟩
                    case round =>
                      clear H'
                      try clear c1
                      try clear p1
                      try clear q1
                      try clear hx1
                      try clear c2
                      try clear p2
                      try clear c3
                      try clear c3b0
                      try clear c4
                      try clear c4b0
                      try clear c5
                      try clear c5b0
                      try clear c6
                      try clear c6b0
                      try clear p6
                      try clear c8
                      try clear c8b0
                      try clear c8b1
                      try clear c9
                      try clear c9b0
                      try clear c12
                      try clear c12b0
                      try clear c13
                      try clear c13b0
                      try clear c14
                      try clear hx190_0
                      try clear hx191_0
                      try clear hx192_0
                      try clear hx195_0
                      try clear hx195_1
                      try clear hx195_10
                      try clear hx195_11
                      try clear hx195_12
                      try clear hx195_13
                      try clear hx195_14
                      try clear hx195_15
                      try clear hx195_2
                      try clear hx195_3
                      try clear hx195_4
                      try clear hx195_5
                      try clear hx195_6
                      try clear hx195_7
                      try clear hx195_8
                      try clear hx195_9
                      try clear p1
                      try clear p190
                      try clear p191
                      try clear p192
                      try clear p195
                      try clear p2
                      try clear p6
                      try clear q1
                      try clear q190
                      try clear q191
                      try clear q192
                      try clear q195
                      obtain ⟨x8_4, rfl, HA, HK4, HB⟩ := hrel
                      cases gk with
                      | zero => exact absurd HA.out (by simp [burnbagref16_May.l2])
                      | succ k4 =>
                        have H := HA.out
                        clear HA
                        simp only [burnbagref16_May.l2] at H
                        by_cases c15 : x8_4 < (l1.length : Int)
                        · rw [if_pos c15] at H
                          have c15b0 : decide (x8_4 < (l1.length : Int)) = true := decide_eq_true c15
                          clear c15
                          by_cases c16 : 0 ≤ x6_2
                          · rw [if_pos c16] at H
                            have c16b0 : decide (0 ≤ x6_2) = true := decide_eq_true c16
                            clear c16
                            by_cases c17 : x6_2 < (l0.length : Int)
                            · rw [if_pos c17] at H
                              have c17b0 : decide (x6_2 < (l0.length : Int)) = true := decide_eq_true c17
                              clear c17
                              by_cases c18 : 0 ≤ x8_4
                              · rw [if_pos c18] at H
                                have c18b0 : decide (0 ≤ x8_4) = true := decide_eq_true c18
                                clear c18
                                by_cases c19 : 0 ≤ (rd l1 x8_4)
                                · rw [if_pos c19] at H
                                  have c19b0 : decide (0 ≤ (rd l1 x8_4)) = true := decide_eq_true c19
                                  clear c19
                                  by_cases c20 : (rd l1 x8_4) < (l0.length : Int)
                                  · rw [if_pos c20] at H
                                    have c20b0 : decide ((rd l1 x8_4) < (l0.length : Int)) = true := decide_eq_true c20
                                    clear c20
                                    replace H := Option.bind_eq_some_iff.mp H
                                    obtain ⟨t199, A210, H⟩ := H
                                    replace H : (if t199 = true then (if t194 < 0 then (some false) else (if t194 > x8_4 then (some false) else (burnbagref16_May.l2 k4 l0 l1 x6_2 t194 (wrap64 (x8_4 + 1))))) else (burnbagref16_May.l2 k4 l0 l1 x6_2 t194 (wrap64 (x8_4 + 1)))) = some r := H
                                    have A21 := Aside0.mk A210
                                    clear A210
                                    by_cases c22 : t199 = true
                                    · as_aux_lemma =>
                                        subst c22
                                        have H1 : (if t194 < 0 then (some false) else (if t194 > x8_4 then (some false) else (burnbagref16_May.l2 k4 l0 l1 x6_2 t194 (wrap64 (x8_4 + 1))))) = some r := by rw [if_pos rfl] at H; exact H
                                        clear H
                                        have H := H1
                                        clear H1
                                        by_cases c23 : t194 < 0
                                        · as_aux_lemma =>
                                            rw [if_pos c23] at H
                                            have c23b0 : decide (t194 < 0) = true := decide_eq_true c23
                                            clear c23
                                            obtain rfl := Option.some.inj H
                                            try go_wp2
                                            have n0_ := Aside0.mk (below_drew1 HB.out)
                                            clear HB
                                            have HB := n0_
                                            clear n0_
                                            have p196 : 0 ≤ (x6_2 : Int) := of_decide_eq_true (by first | (with_reducible assumption) | assumption)
                                            have q196 : x6_2 < (l0.length : Int) := of_decide_eq_true (by first | (with_reducible assumption) | assumption)
                                            obtain ⟨ad196, e196, hx196_0, hx196_1, hx196_2, hx196_3, hx196_4, hx196_5, hx196_6, hx196_7, hx196_8, hx196_9, hx196_10, hx196_11, hx196_12, hx196_13, hx196_14, hx196_15⟩ := at_T38 HR0.out x6_2 p196 q196
                                            have hw196_15 := hx196_15
                                            have hw196_14 := hx196_14
                                            have hw196_13 := hx196_13
                                            have hw196_12 := hx196_12
                                            have hw196_11 := hx196_11
                                            have hw196_10 := hx196_10
                                            have hw196_9 := hx196_9
                                            have hw196_8 := hx196_8
                                            have hw196_7 := hx196_7
                                            have hw196_6 := hx196_6
                                            have hw196_5 := hx196_5
                                            have hw196_4 := hx196_4
                                            have hw196_3 := hx196_3
                                            have hw196_2 := hx196_2
                                            have hw196_1 := hx196_1
                                            have hw196_0 := hx196_0
                                            cases e196
                                            replace hx196_0 := (HB.out.cell (World.block_lt_of_cell? w _ hx196_0)).trans hx196_0
                                            replace hx196_1 := (HB.out.cell (World.block_lt_of_cell? w _ hx196_1)).trans hx196_1
                                            replace hx196_2 := (HB.out.cell (World.block_lt_of_cell? w _ hx196_2)).trans hx196_2
                                            replace hx196_3 := (HB.out.cell (World.block_lt_of_cell? w _ hx196_3)).trans hx196_3
                                            replace hx196_4 := (HB.out.cell (World.block_lt_of_cell? w _ hx196_4)).trans hx196_4
                                            replace hx196_5 := (HB.out.cell (World.block_lt_of_cell? w _ hx196_5)).trans hx196_5
                                            replace hx196_6 := (HB.out.cell (World.block_lt_of_cell? w _ hx196_6)).trans hx196_6
                                            replace hx196_7 := (HB.out.cell (World.block_lt_of_cell? w _ hx196_7)).trans hx196_7
                                            replace hx196_8 := (HB.out.cell (World.block_lt_of_cell? w _ hx196_8)).trans hx196_8
                                            replace hx196_9 := (HB.out.cell (World.block_lt_of_cell? w _ hx196_9)).trans hx196_9
                                            replace hx196_10 := (HB.out.cell (World.block_lt_of_cell? w _ hx196_10)).trans hx196_10
                                            replace hx196_11 := (HB.out.cell (World.block_lt_of_cell? w _ hx196_11)).trans hx196_11
                                            replace hx196_12 := (HB.out.cell (World.block_lt_of_cell? w _ hx196_12)).trans hx196_12
                                            replace hx196_13 := (HB.out.cell (World.block_lt_of_cell? w _ hx196_13)).trans hx196_13
                                            replace hx196_14 := (HB.out.cell (World.block_lt_of_cell? w _ hx196_14)).trans hx196_14
                                            replace hx196_15 := (HB.out.cell (World.block_lt_of_cell? w _ hx196_15)).trans hx196_15
                                            replace p196 := eq_true p196
                                            replace q196 := eq_true q196
                                            have p197 : 0 ≤ (x8_4 : Int) := of_decide_eq_true (by first | (with_reducible assumption) | assumption)
                                            have q197 : x8_4 < (l1.length : Int) := of_decide_eq_true (by first | (with_reducible assumption) | assumption)
                                            obtain ⟨ad197, e197, hx197_0⟩ := Kd.at_int HR1.out x8_4 p197 q197
                                            have hw197_0 := hx197_0
                                            cases e197
                                            replace hx197_0 := (HB.out.cell (World.block_lt_of_cell? w _ hx197_0)).trans hx197_0
                                            replace p197 := eq_true p197
                                            replace q197 := eq_true q197
                                            have p198 : 0 ≤ ((rd l1 x8_4) : Int) := of_decide_eq_true (by first | (with_reducible assumption) | assumption)
                                            have q198 : (rd l1 x8_4) < (l0.length : Int) := of_decide_eq_true (by first | (with_reducible assumption) | assumption)
                                            obtain ⟨ad198, e198, hx198_0, hx198_1, hx198_2, hx198_3, hx198_4, hx198_5, hx198_6, hx198_7, hx198_8, hx198_9, hx198_10, hx198_11, hx198_12, hx198_13, hx198_14, hx198_15⟩ := at_T38 HR0.out (rd l1 x8_4) p198 q198
                                            have hw198_15 := hx198_15
                                            have hw198_14 := hx198_14
                                            have hw198_13 := hx198_13
                                            have hw198_12 := hx198_12
                                            have hw198_11 := hx198_11
                                            have hw198_10 := hx198_10
                                            have hw198_9 := hx198_9
                                            have hw198_8 := hx198_8
                                            have hw198_7 := hx198_7
                                            have hw198_6 := hx198_6
                                            have hw198_5 := hx198_5
                                            have hw198_4 := hx198_4
                                            have hw198_3 := hx198_3
                                            have hw198_2 := hx198_2
                                            have hw198_1 := hx198_1
                                            have hw198_0 := hx198_0
                                            obtain rfl : ad196 = ad198 := (by injection e198)
                                            replace hx198_0 := (HB.out.cell (World.block_lt_of_cell? w _ hx198_0)).trans hx198_0
                                            replace hx198_1 := (HB.out.cell (World.block_lt_of_cell? w _ hx198_1)).trans hx198_1
                                            replace hx198_2 := (HB.out.cell (World.block_lt_of_cell? w _ hx198_2)).trans hx198_2
                                            replace hx198_3 := (HB.out.cell (World.block_lt_of_cell? w _ hx198_3)).trans hx198_3
                                            replace hx198_4 := (HB.out.cell (World.block_lt_of_cell? w _ hx198_4)).trans hx198_4
                                            replace hx198_5 := (HB.out.cell (World.block_lt_of_cell? w _ hx198_5)).trans hx198_5
                                            replace hx198_6 := (HB.out.cell (World.block_lt_of_cell? w _ hx198_6)).trans hx198_6
                                            replace hx198_7 := (HB.out.cell (World.block_lt_of_cell? w _ hx198_7)).trans hx198_7
                                            replace hx198_8 := (HB.out.cell (World.block_lt_of_cell? w _ hx198_8)).trans hx198_8
                                            replace hx198_9 := (HB.out.cell (World.block_lt_of_cell? w _ hx198_9)).trans hx198_9
                                            replace hx198_10 := (HB.out.cell (World.block_lt_of_cell? w _ hx198_10)).trans hx198_10
                                            replace hx198_11 := (HB.out.cell (World.block_lt_of_cell? w _ hx198_11)).trans hx198_11
                                            replace hx198_12 := (HB.out.cell (World.block_lt_of_cell? w _ hx198_12)).trans hx198_12
                                            replace hx198_13 := (HB.out.cell (World.block_lt_of_cell? w _ hx198_13)).trans hx198_13
                                            replace hx198_14 := (HB.out.cell (World.block_lt_of_cell? w _ hx198_14)).trans hx198_14
                                            replace hx198_15 := (HB.out.cell (World.block_lt_of_cell? w _ hx198_15)).trans hx198_15
                                            replace p198 := eq_true p198
                                            replace q198 := eq_true q198
                                            refine start_ (n := 21) (S := fun w' => w'.cell? (ad196.add ((x6_2).toNat * 16)) = some (.int .i64 ((rd_T38 l0 x6_2).f0)) ∧ w'.cell? ⟨(ad196.add ((x6_2).toNat * 16)).block, (ad196.add ((x6_2).toNat * 16)).off + 1, none⟩ = some (.int .i64 ((rd_T38 l0 x6_2).f1.f0)) ∧ w'.cell? ⟨(ad196.add ((x6_2).toNat * 16)).block, (ad196.add ((x6_2).toNat * 16)).off + 2, none⟩ = some (.int .i64 ((rd_T38 l0 x6_2).f1.f1)) ∧ w'.cell? ⟨(ad196.add ((x6_2).toNat * 16)).block, (ad196.add ((x6_2).toNat * 16)).off + 3, none⟩ = some (.int .i64 ((rd_T38 l0 x6_2).f1.f2)) ∧ w'.cell? ⟨(ad196.add ((x6_2).toNat * 16)).block, (ad196.add ((x6_2).toNat * 16)).off + 4, none⟩ = some (.int .u64 ((rd_T38 l0 x6_2).f1.f3.f0)) ∧ w'.cell? ⟨(ad196.add ((x6_2).toNat * 16)).block, (ad196.add ((x6_2).toNat * 16)).off + 5, none⟩ = some (.int .u64 ((rd_T38 l0 x6_2).f1.f3.f1)) ∧ w'.cell? ⟨(ad196.add ((x6_2).toNat * 16)).block, (ad196.add ((x6_2).toNat * 16)).off + 6, none⟩ = some (.int .u64 ((rd_T38 l0 x6_2).f1.f4)) ∧ w'.cell? ⟨(ad196.add ((x6_2).toNat * 16)).block, (ad196.add ((x6_2).toNat * 16)).off + 7, none⟩ = some (.int .i64 ((rd_T38 l0 x6_2).f1.f5)) ∧ w'.cell? ⟨(ad196.add ((x6_2).toNat * 16)).block, (ad196.add ((x6_2).toNat * 16)).off + 8, none⟩ = some (.int .i64 ((rd_T38 l0 x6_2).f2.f0)) ∧ w'.cell? ⟨(ad196.add ((x6_2).toNat * 16)).block, (ad196.add ((x6_2).toNat * 16)).off + 9, none⟩ = some (.int .u64 ((rd_T38 l0 x6_2).f2.f1.f0)) ∧ w'.cell? ⟨(ad196.add ((x6_2).toNat * 16)).block, (ad196.add ((x6_2).toNat * 16)).off + 10, none⟩ = some (.int .u64 ((rd_T38 l0 x6_2).f2.f1.f1)) ∧ w'.cell? ⟨(ad196.add ((x6_2).toNat * 16)).block, (ad196.add ((x6_2).toNat * 16)).off + 11, none⟩ = some (.int .u64 ((rd_T38 l0 x6_2).f2.f2)) ∧ w'.cell? ⟨(ad196.add ((x6_2).toNat * 16)).block, (ad196.add ((x6_2).toNat * 16)).off + 12, none⟩ = some (.int .i64 ((rd_T38 l0 x6_2).f2.f3)) ∧ w'.cell? ⟨(ad196.add ((x6_2).toNat * 16)).block, (ad196.add ((x6_2).toNat * 16)).off + 13, none⟩ = some (.int .i64 ((rd_T38 l0 x6_2).f2.f4)) ∧ w'.cell? ⟨(ad196.add ((x6_2).toNat * 16)).block, (ad196.add ((x6_2).toNat * 16)).off + 14, none⟩ = some (.int .i64 ((rd_T38 l0 x6_2).f3)) ∧ w'.cell? ⟨(ad196.add ((x6_2).toNat * 16)).block, (ad196.add ((x6_2).toNat * 16)).off + 15, none⟩ = some (.int .i64 ((rd_T38 l0 x6_2).f4)) ∧ w'.cell? (ad197.add (x8_4).toNat) = some (.int .i64 (rd l1 x8_4)) ∧ w'.cell? (ad196.add (((rd l1 x8_4)).toNat * 16)) = some (.int .i64 ((rd_T38 l0 (rd l1 x8_4)).f0)) ∧ w'.cell? ⟨(ad196.add (((rd l1 x8_4)).toNat * 16)).block, (ad196.add (((rd l1 x8_4)).toNat * 16)).off + 1, none⟩ = some (.int .i64 ((rd_T38 l0 (rd l1 x8_4)).f1.f0)) ∧ w'.cell? ⟨(ad196.add (((rd l1 x8_4)).toNat * 16)).block, (ad196.add (((rd l1 x8_4)).toNat * 16)).off + 2, none⟩ = some (.int .i64 ((rd_T38 l0 (rd l1 x8_4)).f1.f1)) ∧ w'.cell? ⟨(ad196.add (((rd l1 x8_4)).toNat * 16)).block, (ad196.add (((rd l1 x8_4)).toNat * 16)).off + 3, none⟩ = some (.int .i64 ((rd_T38 l0 (rd l1 x8_4)).f1.f2)) ∧ w'.cell? ⟨(ad196.add (((rd l1 x8_4)).toNat * 16)).block, (ad196.add (((rd l1 x8_4)).toNat * 16)).off + 4, none⟩ = some (.int .u64 ((rd_T38 l0 (rd l1 x8_4)).f1.f3.f0)) ∧ w'.cell? ⟨(ad196.add (((rd l1 x8_4)).toNat * 16)).block, (ad196.add (((rd l1 x8_4)).toNat * 16)).off + 5, none⟩ = some (.int .u64 ((rd_T38 l0 (rd l1 x8_4)).f1.f3.f1)) ∧ w'.cell? ⟨(ad196.add (((rd l1 x8_4)).toNat * 16)).block, (ad196.add (((rd l1 x8_4)).toNat * 16)).off + 6, none⟩ = some (.int .u64 ((rd_T38 l0 (rd l1 x8_4)).f1.f4)) ∧ w'.cell? ⟨(ad196.add (((rd l1 x8_4)).toNat * 16)).block, (ad196.add (((rd l1 x8_4)).toNat * 16)).off + 7, none⟩ = some (.int .i64 ((rd_T38 l0 (rd l1 x8_4)).f1.f5)) ∧ w'.cell? ⟨(ad196.add (((rd l1 x8_4)).toNat * 16)).block, (ad196.add (((rd l1 x8_4)).toNat * 16)).off + 8, none⟩ = some (.int .i64 ((rd_T38 l0 (rd l1 x8_4)).f2.f0)) ∧ w'.cell? ⟨(ad196.add (((rd l1 x8_4)).toNat * 16)).block, (ad196.add (((rd l1 x8_4)).toNat * 16)).off + 9, none⟩ = some (.int .u64 ((rd_T38 l0 (rd l1 x8_4)).f2.f1.f0)) ∧ w'.cell? ⟨(ad196.add (((rd l1 x8_4)).toNat * 16)).block, (ad196.add (((rd l1 x8_4)).toNat * 16)).off + 10, none⟩ = some (.int .u64 ((rd_T38 l0 (rd l1 x8_4)).f2.f1.f1)) ∧ w'.cell? ⟨(ad196.add (((rd l1 x8_4)).toNat * 16)).block, (ad196.add (((rd l1 x8_4)).toNat * 16)).off + 11, none⟩ = some (.int .u64 ((rd_T38 l0 (rd l1 x8_4)).f2.f2)) ∧ w'.cell? ⟨(ad196.add (((rd l1 x8_4)).toNat * 16)).block, (ad196.add (((rd l1 x8_4)).toNat * 16)).off + 12, none⟩ = some (.int .i64 ((rd_T38 l0 (rd l1 x8_4)).f2.f3)) ∧ w'.cell? ⟨(ad196.add (((rd l1 x8_4)).toNat * 16)).block, (ad196.add (((rd l1 x8_4)).toNat * 16)).off + 13, none⟩ = some (.int .i64 ((rd_T38 l0 (rd l1 x8_4)).f2.f4)) ∧ w'.cell? ⟨(ad196.add (((rd l1 x8_4)).toNat * 16)).block, (ad196.add (((rd l1 x8_4)).toNat * 16)).off + 14, none⟩ = some (.int .i64 ((rd_T38 l0 (rd l1 x8_4)).f3)) ∧ w'.cell? ⟨(ad196.add (((rd l1 x8_4)).toNat * 16)).block, (ad196.add (((rd l1 x8_4)).toNat * 16)).off + 15, none⟩ = some (.int .i64 ((rd_T38 l0 (rd l1 x8_4)).f4))) (ds := []) #[false, false, false, false, false, false, false, false, false, false, false, false, false, false, false, false, false, false, false, false, false] (by kernel_rfl) rfl rfl ⟨((HB.out.cell (World.block_lt_of_cell? w _ hw196_0)).trans hw196_0), ((HB.out.cell (World.block_lt_of_cell? w _ hw196_1)).trans hw196_1), ((HB.out.cell (World.block_lt_of_cell? w _ hw196_2)).trans hw196_2), ((HB.out.cell (World.block_lt_of_cell? w _ hw196_3)).trans hw196_3), ((HB.out.cell (World.block_lt_of_cell? w _ hw196_4)).trans hw196_4), ((HB.out.cell (World.block_lt_of_cell? w _ hw196_5)).trans hw196_5), ((HB.out.cell (World.block_lt_of_cell? w _ hw196_6)).trans hw196_6), ((HB.out.cell (World.block_lt_of_cell? w _ hw196_7)).trans hw196_7), ((HB.out.cell (World.block_lt_of_cell? w _ hw196_8)).trans hw196_8), ((HB.out.cell (World.block_lt_of_cell? w _ hw196_9)).trans hw196_9), ((HB.out.cell (World.block_lt_of_cell? w _ hw196_10)).trans hw196_10), ((HB.out.cell (World.block_lt_of_cell? w _ hw196_11)).trans hw196_11), ((HB.out.cell (World.block_lt_of_cell? w _ hw196_12)).trans hw196_12), ((HB.out.cell (World.block_lt_of_cell? w _ hw196_13)).trans hw196_13), ((HB.out.cell (World.block_lt_of_cell? w _ hw196_14)).trans hw196_14), ((HB.out.cell (World.block_lt_of_cell? w _ hw196_15)).trans hw196_15), ((HB.out.cell (World.block_lt_of_cell? w _ hw197_0)).trans hw197_0), ((HB.out.cell (World.block_lt_of_cell? w _ hw198_0)).trans hw198_0), ((HB.out.cell (World.block_lt_of_cell? w _ hw198_1)).trans hw198_1), ((HB.out.cell (World.block_lt_of_cell? w _ hw198_2)).trans hw198_2), ((HB.out.cell (World.block_lt_of_cell? w _ hw198_3)).trans hw198_3), ((HB.out.cell (World.block_lt_of_cell? w _ hw198_4)).trans hw198_4), ((HB.out.cell (World.block_lt_of_cell? w _ hw198_5)).trans hw198_5), ((HB.out.cell (World.block_lt_of_cell? w _ hw198_6)).trans hw198_6), ((HB.out.cell (World.block_lt_of_cell? w _ hw198_7)).trans hw198_7), ((HB.out.cell (World.block_lt_of_cell? w _ hw198_8)).trans hw198_8), ((HB.out.cell (World.block_lt_of_cell? w _ hw198_9)).trans hw198_9), ((HB.out.cell (World.block_lt_of_cell? w _ hw198_10)).trans hw198_10), ((HB.out.cell (World.block_lt_of_cell? w _ hw198_11)).trans hw198_11), ((HB.out.cell (World.block_lt_of_cell? w _ hw198_12)).trans hw198_12), ((HB.out.cell (World.block_lt_of_cell? w _ hw198_13)).trans hw198_13), ((HB.out.cell (World.block_lt_of_cell? w _ hw198_14)).trans hw198_14), ((HB.out.cell (World.block_lt_of_cell? w _ hw198_15)).trans hw198_15)⟩ (fun hHeld => ?_); refine with_tabW burnbagref16_May.tab15 burnbagref16_May.bits15 (fun HT_ HW_ => ?_)
                                            generalize wr.drew = w24 at HB hx196_0 hx196_1 hx196_10 hx196_11 hx196_12 hx196_13 hx196_14 hx196_15 hx196_2 hx196_3 hx196_4 hx196_5 hx196_6 hx196_7 hx196_8 hx196_9 hx197_0 hx198_0 hx198_1 hx198_10 hx198_11 hx198_12 hx198_13 hx198_14 hx198_15 hx198_2 hx198_3 hx198_4 hx198_5 hx198_6 hx198_7 hx198_8 hx198_9 hHeld ⊢
                                            refine pure_ (i := 0) (N := some 64) (v := ?_) (a' := ?_) #[true, false, false, false, false, false, false, false, false, false, false, false, false, false, false, false, false, false, false, false, false] rfl rfl (any_of HT_.out (by kernel_rfl)) (fun _ _ _ h => h) (Or.inl ⟨by rfl, ?_⟩) ?_ ?_
                                            rotate_left
                                            · intro w'
                                              go_simp
                                              with_reducible rfl
                                            rotate_left
                                            · simp only [Act.put, List.setIfInBounds_toArray, List.set_cons_zero, List.set_cons_succ, i64_w, i32_w]
                                              rfl
                                            refine pure_ (i := 1) (N := some 65) (v := ?_) (a' := ?_) #[true, true, false, false, false, false, false, false, false, false, false, false, false, false, false, false, false, false, false, false, false] rfl rfl (any_of HT_.out (by kernel_rfl)) (fun _ _ _ h => h) (Or.inl ⟨by rfl, ?_⟩) ?_ ?_
                                            rotate_left
                                            · intro w'
                                              go_simp
                                              with_reducible rfl
                                            rotate_left
                                            · simp only [Act.put, List.setIfInBounds_toArray, List.set_cons_zero, List.set_cons_succ, i64_w, i32_w]
                                              rfl
                                            refine pure_ (i := 2) (N := some 66) (v := ?_) (a' := ?_) #[true, true, true, false, false, false, false, false, false, false, false, false, false, false, false, false, false, false, false, false, false] rfl rfl (any_of HT_.out (by kernel_rfl)) (fun _ _ _ h => h) (Or.inl ⟨by rfl, ?_⟩) ?_ ?_
                                            rotate_left
                                            · intro w'
                                              go_simp
                                              with_reducible rfl
                                            rotate_left
                                            · simp only [Act.put, List.setIfInBounds_toArray, List.set_cons_zero, List.set_cons_succ, i64_w, i32_w]
                                              rfl
                                            refine pure_ (i := 4) (N := some 68) (v := ?_) (a' := ?_) #[true, true, true, false, true, false, false, false, false, false, false, false, false, false, false, false, false, false, false, false, false] rfl rfl (any_of HT_.out (by kernel_rfl)) (fun _ _ _ h => h) (Or.inl ⟨by rfl, ?_⟩) ?_ ?_
                                            rotate_left
                                            · intro w'
                                              go_simp
                                              with_reducible rfl
                                            rotate_left
                                            · simp only [Act.put, List.setIfInBounds_toArray, List.set_cons_zero, List.set_cons_succ, i64_w, i32_w]
                                              rfl
                                            refine pure_ (i := 5) (N := some 69) (v := ?_) (a' := ?_) #[true, true, true, false, true, true, false, false, false, false, false, false, false, false, false, false, false, false, false, false, false] rfl rfl (any_of HT_.out (by kernel_rfl)) (fun _ _ _ h => h) (Or.inl ⟨by rfl, ?_⟩) ?_ ?_
                                            rotate_left
                                            · intro w'
                                              go_simp
                                              with_reducible rfl
                                            rotate_left
                                            · simp only [Act.put, List.setIfInBounds_toArray, List.set_cons_zero, List.set_cons_succ, i64_w, i32_w]
                                              rfl
                                            refine pure_ (i := 6) (N := some 70) (v := ?_) (a' := ?_) #[true, true, true, false, true, true, true, false, false, false, false, false, false, false, false, false, false, false, false, false, false] rfl rfl (any_of HT_.out (by kernel_rfl)) (fun _ _ _ h => h) (Or.inl ⟨by rfl, ?_⟩) ?_ ?_
                                            rotate_left
                                            · intro w'
                                              go_simp
                                              with_reducible rfl
                                            rotate_left
                                            · simp only [Act.put, List.setIfInBounds_toArray, List.set_cons_zero, List.set_cons_succ, i64_w, i32_w]
                                              rfl
                                            refine pure_ (i := 7) (N := some 71) (v := ?_) (a' := ?_) #[true, true, true, false, true, true, true, true, false, false, false, false, false, false, false, false, false, false, false, false, false] rfl rfl (any_of HT_.out (by kernel_rfl)) (fun _ _ _ h => h) (Or.inl ⟨by rfl, ?_⟩) ?_ ?_
                                            rotate_left
                                            · intro w'
                                              go_simp
                                              with_reducible rfl
                                            rotate_left
                                            · simp only [Act.put, List.setIfInBounds_toArray, List.set_cons_zero, List.set_cons_succ, i64_w, i32_w]
                                              rfl
                                            refine take_ (i := 3) (N := some 67) (v := ?_) (a' := ?_) #[true, true, true, true, true, true, true, true, false, false, false, false, false, false, false, false, false, false, false, false, false] rfl rfl (take_ofW HT_.out HW_.out (by kernel_rfl)) (fun _ _ _ h => h) (Or.inl ⟨by rfl, ?_⟩) hHeld ?_ ?_
                                            rotate_left
                                            · rintro w' ⟨s0, s1, s2, s3, s4, s5, s6, s7, s8, s9, s10, s11, s12, s13, s14, s15, s16, s17, s18, s19, s20, s21, s22, s23, s24, s25, s26, s27, s28, s29, s30, s31, s32⟩
                                              go_simp
                                              with_reducible rfl
                                            rotate_left
                                            · simp only [Act.put, List.setIfInBounds_toArray, List.set_cons_zero, List.set_cons_succ, i64_w, i32_w]
                                              rfl
                                            refine take_ (i := 8) (N := some 72) (v := ?_) (a' := ?_) #[true, true, true, true, true, true, true, true, true, false, false, false, false, false, false, false, false, false, false, false, false] rfl rfl (take_ofW HT_.out HW_.out (by kernel_rfl)) (fun _ _ _ h => h) (Or.inl ⟨by rfl, ?_⟩) hHeld ?_ ?_
                                            rotate_left
                                            · rintro w' ⟨s0, s1, s2, s3, s4, s5, s6, s7, s8, s9, s10, s11, s12, s13, s14, s15, s16, s17, s18, s19, s20, s21, s22, s23, s24, s25, s26, s27, s28, s29, s30, s31, s32⟩
                                              go_simp
                                              with_reducible rfl
                                            rotate_left
                                            · simp only [Act.put, List.setIfInBounds_toArray, List.set_cons_zero, List.set_cons_succ, i64_w, i32_w]
                                              rfl
                                            refine pure_ (i := 9) (N := some 73) (v := ?_) (a' := ?_) #[true, true, true, true, true, true, true, true, true, true, false, false, false, false, false, false, false, false, false, false, false] rfl rfl (any_of HT_.out (by kernel_rfl)) (fun _ _ _ h => h) (Or.inl ⟨by rfl, ?_⟩) ?_ ?_
                                            rotate_left
                                            · intro w'
                                              go_simp
                                              with_reducible rfl
                                            rotate_left
                                            · simp only [Act.put, List.setIfInBounds_toArray, List.set_cons_zero, List.set_cons_succ, i64_w, i32_w]
                                              rfl
                                            refine take_ (i := 10) (N := some 74) (v := ?_) (a' := ?_) #[true, true, true, true, true, true, true, true, true, true, true, false, false, false, false, false, false, false, false, false, false] rfl rfl (take_ofW HT_.out HW_.out (by kernel_rfl)) (fun _ _ _ h => h) (Or.inl ⟨by rfl, ?_⟩) hHeld ?_ ?_
                                            rotate_left
                                            · rintro w' ⟨s0, s1, s2, s3, s4, s5, s6, s7, s8, s9, s10, s11, s12, s13, s14, s15, s16, s17, s18, s19, s20, s21, s22, s23, s24, s25, s26, s27, s28, s29, s30, s31, s32⟩
                                              go_simp
                                              with_reducible rfl
                                            rotate_left
                                            · simp only [Act.put, List.setIfInBounds_toArray, List.set_cons_zero, List.set_cons_succ, i64_w, i32_w]
                                              rfl
                                            refine one_ (i := 11) (N := some 75) #[true, true, true, true, true, true, true, true, true, true, true, true, false, false, false, false, false, false, false, false, false] rfl rfl (one_of HT_.out (by kernel_rfl)) (by decide) (fun K hK => ?_)
                                            refine goes_ Tryz.func23 (by kernel_rfl) rfl #[.agg #[.int .i64 ((rd_T38 l0 x6_2).f0), .int .i64 ((rd_T38 l0 x6_2).f1.f0), .int .i64 ((rd_T38 l0 x6_2).f1.f1), .int .i64 ((rd_T38 l0 x6_2).f1.f2), .int .u64 ((rd_T38 l0 x6_2).f1.f3.f0), .int .u64 ((rd_T38 l0 x6_2).f1.f3.f1), .int .u64 ((rd_T38 l0 x6_2).f1.f4), .int .i64 ((rd_T38 l0 x6_2).f1.f5), .int .i64 ((rd_T38 l0 x6_2).f2.f0), .int .u64 ((rd_T38 l0 x6_2).f2.f1.f0), .int .u64 ((rd_T38 l0 x6_2).f2.f1.f1), .int .u64 ((rd_T38 l0 x6_2).f2.f2), .int .i64 ((rd_T38 l0 x6_2).f2.f3), .int .i64 ((rd_T38 l0 x6_2).f2.f4), .int .i64 ((rd_T38 l0 x6_2).f3), .int .i64 ((rd_T38 l0 x6_2).f4)], .agg #[.int .i64 ((rd_T38 l0 (rd l1 x8_4)).f0), .int .i64 ((rd_T38 l0 (rd l1 x8_4)).f1.f0), .int .i64 ((rd_T38 l0 (rd l1 x8_4)).f1.f1), .int .i64 ((rd_T38 l0 (rd l1 x8_4)).f1.f2), .int .u64 ((rd_T38 l0 (rd l1 x8_4)).f1.f3.f0), .int .u64 ((rd_T38 l0 (rd l1 x8_4)).f1.f3.f1), .int .u64 ((rd_T38 l0 (rd l1 x8_4)).f1.f4), .int .i64 ((rd_T38 l0 (rd l1 x8_4)).f1.f5), .int .i64 ((rd_T38 l0 (rd l1 x8_4)).f2.f0), .int .u64 ((rd_T38 l0 (rd l1 x8_4)).f2.f1.f0), .int .u64 ((rd_T38 l0 (rd l1 x8_4)).f2.f1.f1), .int .u64 ((rd_T38 l0 (rd l1 x8_4)).f2.f2), .int .i64 ((rd_T38 l0 (rd l1 x8_4)).f2.f3), .int .i64 ((rd_T38 l0 (rd l1 x8_4)).f2.f4), .int .i64 ((rd_T38 l0 (rd l1 x8_4)).f3), .int .i64 ((rd_T38 l0 (rd l1 x8_4)).f4)]] (by rfl) rfl rfl (by (try simp only [List.map_toArray, List.map_cons, List.map_nil]); first | done | rfl | (simp only [List.length_drop, List.length_take]; rfl)) ?_
                                            with_reducible refine (burnbagref14_Ahead.calls ((rd_T38 l0 x6_2).f0) ((rd_T38 l0 x6_2).f1.f0) ((rd_T38 l0 x6_2).f1.f1) ((rd_T38 l0 x6_2).f1.f2) ((rd_T38 l0 x6_2).f1.f3.f0) ((rd_T38 l0 x6_2).f1.f3.f1) ((rd_T38 l0 x6_2).f1.f4) ((rd_T38 l0 x6_2).f1.f5) ((rd_T38 l0 x6_2).f2.f0) ((rd_T38 l0 x6_2).f2.f1.f0) ((rd_T38 l0 x6_2).f2.f1.f1) ((rd_T38 l0 x6_2).f2.f2) ((rd_T38 l0 x6_2).f2.f3) ((rd_T38 l0 x6_2).f2.f4) ((rd_T38 l0 x6_2).f3) ((rd_T38 l0 x6_2).f4) ((rd_T38 l0 (rd l1 x8_4)).f0) ((rd_T38 l0 (rd l1 x8_4)).f1.f0) ((rd_T38 l0 (rd l1 x8_4)).f1.f1) ((rd_T38 l0 (rd l1 x8_4)).f1.f2) ((rd_T38 l0 (rd l1 x8_4)).f1.f3.f0) ((rd_T38 l0 (rd l1 x8_4)).f1.f3.f1) ((rd_T38 l0 (rd l1 x8_4)).f1.f4) ((rd_T38 l0 (rd l1 x8_4)).f1.f5) ((rd_T38 l0 (rd l1 x8_4)).f2.f0) ((rd_T38 l0 (rd l1 x8_4)).f2.f1.f0) ((rd_T38 l0 (rd l1 x8_4)).f2.f1.f1) ((rd_T38 l0 (rd l1 x8_4)).f2.f2) ((rd_T38 l0 (rd l1 x8_4)).f2.f3) ((rd_T38 l0 (rd l1 x8_4)).f2.f4) ((rd_T38 l0 (rd l1 x8_4)).f3) ((rd_T38 l0 (rd l1 x8_4)).f4) true _ A21.out).mono ?_
                                            rintro e w25 ⟨rfl, hb⟩
                                            refine ⟨_, rfl, ?_⟩
                                            have n0_ := Aside0.mk (below_step (by repeat (first | (with_reducible first | exact HB.out | apply below_alloc | apply pw_below_drewN | apply below_drew1) | exact HB.out)) hb)
                                            clear HB
                                            have HB := n0_
                                            clear n0_
                                            (try clear hb)
                                            (try clear hb2)
                                            (try clear hk)
                                            (try clear hi)
                                            refine hK.out _ _ ⟨((HB.out.cell (World.block_lt_of_cell? w _ hw196_0)).trans hw196_0), ((HB.out.cell (World.block_lt_of_cell? w _ hw196_1)).trans hw196_1), ((HB.out.cell (World.block_lt_of_cell? w _ hw196_2)).trans hw196_2), ((HB.out.cell (World.block_lt_of_cell? w _ hw196_3)).trans hw196_3), ((HB.out.cell (World.block_lt_of_cell? w _ hw196_4)).trans hw196_4), ((HB.out.cell (World.block_lt_of_cell? w _ hw196_5)).trans hw196_5), ((HB.out.cell (World.block_lt_of_cell? w _ hw196_6)).trans hw196_6), ((HB.out.cell (World.block_lt_of_cell? w _ hw196_7)).trans hw196_7), ((HB.out.cell (World.block_lt_of_cell? w _ hw196_8)).trans hw196_8), ((HB.out.cell (World.block_lt_of_cell? w _ hw196_9)).trans hw196_9), ((HB.out.cell (World.block_lt_of_cell? w _ hw196_10)).trans hw196_10), ((HB.out.cell (World.block_lt_of_cell? w _ hw196_11)).trans hw196_11), ((HB.out.cell (World.block_lt_of_cell? w _ hw196_12)).trans hw196_12), ((HB.out.cell (World.block_lt_of_cell? w _ hw196_13)).trans hw196_13), ((HB.out.cell (World.block_lt_of_cell? w _ hw196_14)).trans hw196_14), ((HB.out.cell (World.block_lt_of_cell? w _ hw196_15)).trans hw196_15), ((HB.out.cell (World.block_lt_of_cell? w _ hw197_0)).trans hw197_0), ((HB.out.cell (World.block_lt_of_cell? w _ hw198_0)).trans hw198_0), ((HB.out.cell (World.block_lt_of_cell? w _ hw198_1)).trans hw198_1), ((HB.out.cell (World.block_lt_of_cell? w _ hw198_2)).trans hw198_2), ((HB.out.cell (World.block_lt_of_cell? w _ hw198_3)).trans hw198_3), ((HB.out.cell (World.block_lt_of_cell? w _ hw198_4)).trans hw198_4), ((HB.out.cell (World.block_lt_of_cell? w _ hw198_5)).trans hw198_5), ((HB.out.cell (World.block_lt_of_cell? w _ hw198_6)).trans hw198_6), ((HB.out.cell (World.block_lt_of_cell? w _ hw198_7)).trans hw198_7), ((HB.out.cell (World.block_lt_of_cell? w _ hw198_8)).trans hw198_8), ((HB.out.cell (World.block_lt_of_cell? w _ hw198_9)).trans hw198_9), ((HB.out.cell (World.block_lt_of_cell? w _ hw198_10)).trans hw198_10), ((HB.out.cell (World.block_lt_of_cell? w _ hw198_11)).trans hw198_11), ((HB.out.cell (World.block_lt_of_cell? w _ hw198_12)).trans hw198_12), ((HB.out.cell (World.block_lt_of_cell? w _ hw198_13)).trans hw198_13), ((HB.out.cell (World.block_lt_of_cell? w _ hw198_14)).trans hw198_14), ((HB.out.cell (World.block_lt_of_cell? w _ hw198_15)).trans hw198_15)⟩ (fun hHeld => ?_)
                                            clear hK K
                                            refine norm_ (a' := ?_) ?_ ?_
                                            rotate_left
                                            · show Act.put _ (some 75) _ = _
                                              simp only [Act.put, List.setIfInBounds_toArray, List.set_cons_zero, List.set_cons_succ, i64_w, i32_w]
                                              rfl
                                            refine pure_ (i := 12) (N := some 76) (v := ?_) (a' := ?_) #[true, true, true, true, true, true, true, true, true, true, true, true, true, false, false, false, false, false, false, false, false] rfl rfl (any_of HT_.out (by kernel_rfl)) (fun _ _ _ h => h) (Or.inl ⟨by rfl, ?_⟩) ?_ ?_
                                            rotate_left
                                            · intro w'
                                              go_simp
                                              with_reducible rfl
                                            rotate_left
                                            · simp only [Act.put, List.setIfInBounds_toArray, List.set_cons_zero, List.set_cons_succ, i64_w, i32_w]
                                              rfl
                                            refine pure_ (i := 13) (N := some 77) (v := ?_) (a' := ?_) #[true, true, true, true, true, true, true, true, true, true, true, true, true, true, false, false, false, false, false, false, false] rfl rfl (any_of HT_.out (by kernel_rfl)) (fun _ _ _ h => h) (Or.inl ⟨by rfl, ?_⟩) ?_ ?_
                                            rotate_left
                                            · intro w'
                                              go_simp
                                              with_reducible rfl
                                            rotate_left
                                            · simp only [Act.put, List.setIfInBounds_toArray, List.set_cons_zero, List.set_cons_succ, i64_w, i32_w]
                                              rfl
                                            refine pure_ (i := 14) (N := some 78) (v := ?_) (a' := ?_) #[true, true, true, true, true, true, true, true, true, true, true, true, true, true, true, false, false, false, false, false, false] rfl rfl (any_of HT_.out (by kernel_rfl)) (fun _ _ _ h => h) (Or.inl ⟨by rfl, ?_⟩) ?_ ?_
                                            rotate_left
                                            · intro w'
                                              go_simp
                                              with_reducible rfl
                                            rotate_left
                                            · simp only [Act.put, List.setIfInBounds_toArray, List.set_cons_zero, List.set_cons_succ, i64_w, i32_w]
                                              rfl
                                            refine pure_ (i := 15) (N := some 79) (v := ?_) (a' := ?_) #[true, true, true, true, true, true, true, true, true, true, true, true, true, true, true, true, false, false, false, false, false] rfl rfl (any_of HT_.out (by kernel_rfl)) (fun _ _ _ h => h) (Or.inl ⟨by rfl, ?_⟩) ?_ ?_
                                            rotate_left
                                            · intro w'
                                              go_simp
                                              with_reducible rfl
                                            rotate_left
                                            · simp only [Act.put, List.setIfInBounds_toArray, List.set_cons_zero, List.set_cons_succ, i64_w, i32_w]
                                              rfl
                                            refine pure_ (i := 16) (N := some 80) (v := undef) (a' := ?_) #[true, true, true, true, true, true, true, true, true, true, true, true, true, true, true, true, true, false, false, false, false] rfl rfl (any_of HT_.out (by kernel_rfl)) (fun _ _ _ h => h) (Or.inr ⟨by rfl, rfl⟩) ?_ ?_
                                            rotate_left
                                            · simp only [Act.put, List.setIfInBounds_toArray, List.set_cons_zero, List.set_cons_succ, i64_w, i32_w]
                                              rfl
                                            refine pure_ (i := 17) (N := some 81) (v := undef) (a' := ?_) #[true, true, true, true, true, true, true, true, true, true, true, true, true, true, true, true, true, true, false, false, false] rfl rfl (any_of HT_.out (by kernel_rfl)) (fun _ _ _ h => h) (Or.inr ⟨by rfl, rfl⟩) ?_ ?_
                                            rotate_left
                                            · simp only [Act.put, List.setIfInBounds_toArray, List.set_cons_zero, List.set_cons_succ, i64_w, i32_w]
                                              rfl
                                            refine pure_ (i := 18) (N := some 82) (v := undef) (a' := ?_) #[true, true, true, true, true, true, true, true, true, true, true, true, true, true, true, true, true, true, true, false, false] rfl rfl (any_of HT_.out (by kernel_rfl)) (fun _ _ _ h => h) (Or.inr ⟨by rfl, rfl⟩) ?_ ?_
                                            rotate_left
                                            · simp only [Act.put, List.setIfInBounds_toArray, List.set_cons_zero, List.set_cons_succ, i64_w, i32_w]
                                              rfl
                                            refine pure_ (i := 19) (N := some 83) (v := ?_) (a' := ?_) #[true, true, true, true, true, true, true, true, true, true, true, true, true, true, true, true, true, true, true, true, false] rfl rfl (any_of HT_.out (by kernel_rfl)) (fun _ _ _ h => h) (Or.inl ⟨by rfl, ?_⟩) ?_ ?_
                                            rotate_left
                                            · intro w'
                                              go_simp
                                              with_reducible rfl
                                            rotate_left
                                            · simp only [Act.put, List.setIfInBounds_toArray, List.set_cons_zero, List.set_cons_succ, i64_w, i32_w]
                                              rfl
                                            refine pure_ (i := 20) (N := some 84) (v := ?_) (a' := ?_) #[true, true, true, true, true, true, true, true, true, true, true, true, true, true, true, true, true, true, true, true, true] rfl rfl (any_of HT_.out (by kernel_rfl)) (fun _ _ _ h => h) (Or.inl ⟨by rfl, ?_⟩) ?_ ?_
                                            rotate_left
                                            · intro w'
                                              go_simp
                                              with_reducible rfl
                                            rotate_left
                                            · simp only [Act.put, List.setIfInBounds_toArray, List.set_cons_zero, List.set_cons_succ, i64_w, i32_w]
                                              rfl
                                            refine done_ (done_of HT_.out (by kernel_rfl)) ?_
                                            try go_wp2
                                            go_ret
                                            exact ⟨by first | rfl | (simp [errW_none, errW_some] <;> rfl) | (simp [*, errW_none, errW_some] <;> rfl), by repeat (first | (with_reducible first | exact HB.out | apply below_alloc | apply pw_below_drewN | apply below_drew1) | exact HB.out)⟩
                                        · as_aux_lemma =>
                                            rw [if_neg c23] at H
                                            have c23b0 : decide (t194 < 0) = false := decide_eq_false c23
                                            clear c23
                                            by_cases c26 : t194 > x8_4
                                            · rw [if_pos c26] at H
                                              have c26b0 : decide (x8_4 < t194) = true := decide_eq_true c26
                                              clear c26
                                              obtain rfl := Option.some.inj H
                                              try go_wp2
                                              have n0_ := Aside0.mk (below_drew1 HB.out)
                                              clear HB
                                              have HB := n0_
                                              clear n0_
                                              have p196 : 0 ≤ (x6_2 : Int) := of_decide_eq_true (by first | (with_reducible assumption) | assumption)
                                              have q196 : x6_2 < (l0.length : Int) := of_decide_eq_true (by first | (with_reducible assumption) | assumption)
                                              obtain ⟨ad196, e196, hx196_0, hx196_1, hx196_2, hx196_3, hx196_4, hx196_5, hx196_6, hx196_7, hx196_8, hx196_9, hx196_10, hx196_11, hx196_12, hx196_13, hx196_14, hx196_15⟩ := at_T38 HR0.out x6_2 p196 q196
                                              have hw196_15 := hx196_15
                                              have hw196_14 := hx196_14
                                              have hw196_13 := hx196_13
                                              have hw196_12 := hx196_12
                                              have hw196_11 := hx196_11
                                              have hw196_10 := hx196_10
                                              have hw196_9 := hx196_9
                                              have hw196_8 := hx196_8
                                              have hw196_7 := hx196_7
                                              have hw196_6 := hx196_6
                                              have hw196_5 := hx196_5
                                              have hw196_4 := hx196_4
                                              have hw196_3 := hx196_3
                                              have hw196_2 := hx196_2
                                              have hw196_1 := hx196_1
                                              have hw196_0 := hx196_0
                                              cases e196
                                              replace hx196_0 := (HB.out.cell (World.block_lt_of_cell? w _ hx196_0)).trans hx196_0
                                              replace hx196_1 := (HB.out.cell (World.block_lt_of_cell? w _ hx196_1)).trans hx196_1
                                              replace hx196_2 := (HB.out.cell (World.block_lt_of_cell? w _ hx196_2)).trans hx196_2
                                              replace hx196_3 := (HB.out.cell (World.block_lt_of_cell? w _ hx196_3)).trans hx196_3
                                              replace hx196_4 := (HB.out.cell (World.block_lt_of_cell? w _ hx196_4)).trans hx196_4
                                              replace hx196_5 := (HB.out.cell (World.block_lt_of_cell? w _ hx196_5)).trans hx196_5
                                              replace hx196_6 := (HB.out.cell (World.block_lt_of_cell? w _ hx196_6)).trans hx196_6
                                              replace hx196_7 := (HB.out.cell (World.block_lt_of_cell? w _ hx196_7)).trans hx196_7
                                              replace hx196_8 := (HB.out.cell (World.block_lt_of_cell? w _ hx196_8)).trans hx196_8
                                              replace hx196_9 := (HB.out.cell (World.block_lt_of_cell? w _ hx196_9)).trans hx196_9
                                              replace hx196_10 := (HB.out.cell (World.block_lt_of_cell? w _ hx196_10)).trans hx196_10
                                              replace hx196_11 := (HB.out.cell (World.block_lt_of_cell? w _ hx196_11)).trans hx196_11
                                              replace hx196_12 := (HB.out.cell (World.block_lt_of_cell? w _ hx196_12)).trans hx196_12
                                              replace hx196_13 := (HB.out.cell (World.block_lt_of_cell? w _ hx196_13)).trans hx196_13
                                              replace hx196_14 := (HB.out.cell (World.block_lt_of_cell? w _ hx196_14)).trans hx196_14
                                              replace hx196_15 := (HB.out.cell (World.block_lt_of_cell? w _ hx196_15)).trans hx196_15
                                              replace p196 := eq_true p196
                                              replace q196 := eq_true q196
                                              have p197 : 0 ≤ (x8_4 : Int) := of_decide_eq_true (by first | (with_reducible assumption) | assumption)
                                              have q197 : x8_4 < (l1.length : Int) := of_decide_eq_true (by first | (with_reducible assumption) | assumption)
                                              obtain ⟨ad197, e197, hx197_0⟩ := Kd.at_int HR1.out x8_4 p197 q197
                                              have hw197_0 := hx197_0
                                              cases e197
                                              replace hx197_0 := (HB.out.cell (World.block_lt_of_cell? w _ hx197_0)).trans hx197_0
                                              replace p197 := eq_true p197
                                              replace q197 := eq_true q197
                                              have p198 : 0 ≤ ((rd l1 x8_4) : Int) := of_decide_eq_true (by first | (with_reducible assumption) | assumption)
                                              have q198 : (rd l1 x8_4) < (l0.length : Int) := of_decide_eq_true (by first | (with_reducible assumption) | assumption)
                                              obtain ⟨ad198, e198, hx198_0, hx198_1, hx198_2, hx198_3, hx198_4, hx198_5, hx198_6, hx198_7, hx198_8, hx198_9, hx198_10, hx198_11, hx198_12, hx198_13, hx198_14, hx198_15⟩ := at_T38 HR0.out (rd l1 x8_4) p198 q198
                                              have hw198_15 := hx198_15
                                              have hw198_14 := hx198_14
                                              have hw198_13 := hx198_13
                                              have hw198_12 := hx198_12
                                              have hw198_11 := hx198_11
                                              have hw198_10 := hx198_10
                                              have hw198_9 := hx198_9
                                              have hw198_8 := hx198_8
                                              have hw198_7 := hx198_7
                                              have hw198_6 := hx198_6
                                              have hw198_5 := hx198_5
                                              have hw198_4 := hx198_4
                                              have hw198_3 := hx198_3
                                              have hw198_2 := hx198_2
                                              have hw198_1 := hx198_1
                                              have hw198_0 := hx198_0
                                              obtain rfl : ad196 = ad198 := (by injection e198)
                                              replace hx198_0 := (HB.out.cell (World.block_lt_of_cell? w _ hx198_0)).trans hx198_0
                                              replace hx198_1 := (HB.out.cell (World.block_lt_of_cell? w _ hx198_1)).trans hx198_1
                                              replace hx198_2 := (HB.out.cell (World.block_lt_of_cell? w _ hx198_2)).trans hx198_2
                                              replace hx198_3 := (HB.out.cell (World.block_lt_of_cell? w _ hx198_3)).trans hx198_3
                                              replace hx198_4 := (HB.out.cell (World.block_lt_of_cell? w _ hx198_4)).trans hx198_4
                                              replace hx198_5 := (HB.out.cell (World.block_lt_of_cell? w _ hx198_5)).trans hx198_5
                                              replace hx198_6 := (HB.out.cell (World.block_lt_of_cell? w _ hx198_6)).trans hx198_6
                                              replace hx198_7 := (HB.out.cell (World.block_lt_of_cell? w _ hx198_7)).trans hx198_7
                                              replace hx198_8 := (HB.out.cell (World.block_lt_of_cell? w _ hx198_8)).trans hx198_8
                                              replace hx198_9 := (HB.out.cell (World.block_lt_of_cell? w _ hx198_9)).trans hx198_9
                                              replace hx198_10 := (HB.out.cell (World.block_lt_of_cell? w _ hx198_10)).trans hx198_10
                                              replace hx198_11 := (HB.out.cell (World.block_lt_of_cell? w _ hx198_11)).trans hx198_11
                                              replace hx198_12 := (HB.out.cell (World.block_lt_of_cell? w _ hx198_12)).trans hx198_12
                                              replace hx198_13 := (HB.out.cell (World.block_lt_of_cell? w _ hx198_13)).trans hx198_13
                                              replace hx198_14 := (HB.out.cell (World.block_lt_of_cell? w _ hx198_14)).trans hx198_14
                                              replace hx198_15 := (HB.out.cell (World.block_lt_of_cell? w _ hx198_15)).trans hx198_15
                                              replace p198 := eq_true p198
                                              replace q198 := eq_true q198
                                              refine start_ (n := 21) (S := fun w' => w'.cell? (ad196.add ((x6_2).toNat * 16)) = some (.int .i64 ((rd_T38 l0 x6_2).f0)) ∧ w'.cell? ⟨(ad196.add ((x6_2).toNat * 16)).block, (ad196.add ((x6_2).toNat * 16)).off + 1, none⟩ = some (.int .i64 ((rd_T38 l0 x6_2).f1.f0)) ∧ w'.cell? ⟨(ad196.add ((x6_2).toNat * 16)).block, (ad196.add ((x6_2).toNat * 16)).off + 2, none⟩ = some (.int .i64 ((rd_T38 l0 x6_2).f1.f1)) ∧ w'.cell? ⟨(ad196.add ((x6_2).toNat * 16)).block, (ad196.add ((x6_2).toNat * 16)).off + 3, none⟩ = some (.int .i64 ((rd_T38 l0 x6_2).f1.f2)) ∧ w'.cell? ⟨(ad196.add ((x6_2).toNat * 16)).block, (ad196.add ((x6_2).toNat * 16)).off + 4, none⟩ = some (.int .u64 ((rd_T38 l0 x6_2).f1.f3.f0)) ∧ w'.cell? ⟨(ad196.add ((x6_2).toNat * 16)).block, (ad196.add ((x6_2).toNat * 16)).off + 5, none⟩ = some (.int .u64 ((rd_T38 l0 x6_2).f1.f3.f1)) ∧ w'.cell? ⟨(ad196.add ((x6_2).toNat * 16)).block, (ad196.add ((x6_2).toNat * 16)).off + 6, none⟩ = some (.int .u64 ((rd_T38 l0 x6_2).f1.f4)) ∧ w'.cell? ⟨(ad196.add ((x6_2).toNat * 16)).block, (ad196.add ((x6_2).toNat * 16)).off + 7, none⟩ = some (.int .i64 ((rd_T38 l0 x6_2).f1.f5)) ∧ w'.cell? ⟨(ad196.add ((x6_2).toNat * 16)).block, (ad196.add ((x6_2).toNat * 16)).off + 8, none⟩ = some (.int .i64 ((rd_T38 l0 x6_2).f2.f0)) ∧ w'.cell? ⟨(ad196.add ((x6_2).toNat * 16)).block, (ad196.add ((x6_2).toNat * 16)).off + 9, none⟩ = some (.int .u64 ((rd_T38 l0 x6_2).f2.f1.f0)) ∧ w'.cell? ⟨(ad196.add ((x6_2).toNat * 16)).block, (ad196.add ((x6_2).toNat * 16)).off + 10, none⟩ = some (.int .u64 ((rd_T38 l0 x6_2).f2.f1.f1)) ∧ w'.cell? ⟨(ad196.add ((x6_2).toNat * 16)).block, (ad196.add ((x6_2).toNat * 16)).off + 11, none⟩ = some (.int .u64 ((rd_T38 l0 x6_2).f2.f2)) ∧ w'.cell? ⟨(ad196.add ((x6_2).toNat * 16)).block, (ad196.add ((x6_2).toNat * 16)).off + 12, none⟩ = some (.int .i64 ((rd_T38 l0 x6_2).f2.f3)) ∧ w'.cell? ⟨(ad196.add ((x6_2).toNat * 16)).block, (ad196.add ((x6_2).toNat * 16)).off + 13, none⟩ = some (.int .i64 ((rd_T38 l0 x6_2).f2.f4)) ∧ w'.cell? ⟨(ad196.add ((x6_2).toNat * 16)).block, (ad196.add ((x6_2).toNat * 16)).off + 14, none⟩ = some (.int .i64 ((rd_T38 l0 x6_2).f3)) ∧ w'.cell? ⟨(ad196.add ((x6_2).toNat * 16)).block, (ad196.add ((x6_2).toNat * 16)).off + 15, none⟩ = some (.int .i64 ((rd_T38 l0 x6_2).f4)) ∧ w'.cell? (ad197.add (x8_4).toNat) = some (.int .i64 (rd l1 x8_4)) ∧ w'.cell? (ad196.add (((rd l1 x8_4)).toNat * 16)) = some (.int .i64 ((rd_T38 l0 (rd l1 x8_4)).f0)) ∧ w'.cell? ⟨(ad196.add (((rd l1 x8_4)).toNat * 16)).block, (ad196.add (((rd l1 x8_4)).toNat * 16)).off + 1, none⟩ = some (.int .i64 ((rd_T38 l0 (rd l1 x8_4)).f1.f0)) ∧ w'.cell? ⟨(ad196.add (((rd l1 x8_4)).toNat * 16)).block, (ad196.add (((rd l1 x8_4)).toNat * 16)).off + 2, none⟩ = some (.int .i64 ((rd_T38 l0 (rd l1 x8_4)).f1.f1)) ∧ w'.cell? ⟨(ad196.add (((rd l1 x8_4)).toNat * 16)).block, (ad196.add (((rd l1 x8_4)).toNat * 16)).off + 3, none⟩ = some (.int .i64 ((rd_T38 l0 (rd l1 x8_4)).f1.f2)) ∧ w'.cell? ⟨(ad196.add (((rd l1 x8_4)).toNat * 16)).block, (ad196.add (((rd l1 x8_4)).toNat * 16)).off + 4, none⟩ = some (.int .u64 ((rd_T38 l0 (rd l1 x8_4)).f1.f3.f0)) ∧ w'.cell? ⟨(ad196.add (((rd l1 x8_4)).toNat * 16)).block, (ad196.add (((rd l1 x8_4)).toNat * 16)).off + 5, none⟩ = some (.int .u64 ((rd_T38 l0 (rd l1 x8_4)).f1.f3.f1)) ∧ w'.cell? ⟨(ad196.add (((rd l1 x8_4)).toNat * 16)).block, (ad196.add (((rd l1 x8_4)).toNat * 16)).off + 6, none⟩ = some (.int .u64 ((rd_T38 l0 (rd l1 x8_4)).f1.f4)) ∧ w'.cell? ⟨(ad196.add (((rd l1 x8_4)).toNat * 16)).block, (ad196.add (((rd l1 x8_4)).toNat * 16)).off + 7, none⟩ = some (.int .i64 ((rd_T38 l0 (rd l1 x8_4)).f1.f5)) ∧ w'.cell? ⟨(ad196.add (((rd l1 x8_4)).toNat * 16)).block, (ad196.add (((rd l1 x8_4)).toNat * 16)).off + 8, none⟩ = some (.int .i64 ((rd_T38 l0 (rd l1 x8_4)).f2.f0)) ∧ w'.cell? ⟨(ad196.add (((rd l1 x8_4)).toNat * 16)).block, (ad196.add (((rd l1 x8_4)).toNat * 16)).off + 9, none⟩ = some (.int .u64 ((rd_T38 l0 (rd l1 x8_4)).f2.f1.f0)) ∧ w'.cell? ⟨(ad196.add (((rd l1 x8_4)).toNat * 16)).block, (ad196.add (((rd l1 x8_4)).toNat * 16)).off + 10, none⟩ = some (.int .u64 ((rd_T38 l0 (rd l1 x8_4)).f2.f1.f1)) ∧ w'.cell? ⟨(ad196.add (((rd l1 x8_4)).toNat * 16)).block, (ad196.add (((rd l1 x8_4)).toNat * 16)).off + 11, none⟩ = some (.int .u64 ((rd_T38 l0 (rd l1 x8_4)).f2.f2)) ∧ w'.cell? ⟨(ad196.add (((rd l1 x8_4)).toNat * 16)).block, (ad196.add (((rd l1 x8_4)).toNat * 16)).off + 12, none⟩ = some (.int .i64 ((rd_T38 l0 (rd l1 x8_4)).f2.f3)) ∧ w'.cell? ⟨(ad196.add (((rd l1 x8_4)).toNat * 16)).block, (ad196.add (((rd l1 x8_4)).toNat * 16)).off + 13, none⟩ = some (.int .i64 ((rd_T38 l0 (rd l1 x8_4)).f2.f4)) ∧ w'.cell? ⟨(ad196.add (((rd l1 x8_4)).toNat * 16)).block, (ad196.add (((rd l1 x8_4)).toNat * 16)).off + 14, none⟩ = some (.int .i64 ((rd_T38 l0 (rd l1 x8_4)).f3)) ∧ w'.cell? ⟨(ad196.add (((rd l1 x8_4)).toNat * 16)).block, (ad196.add (((rd l1 x8_4)).toNat * 16)).off + 15, none⟩ = some (.int .i64 ((rd_T38 l0 (rd l1 x8_4)).f4))) (ds := []) #[false, false, false, false, false, false, false, false, false, false, false, false, false, false, false, false, false, false, false, false, false] (by kernel_rfl) rfl rfl ⟨((HB.out.cell (World.block_lt_of_cell? w _ hw196_0)).trans hw196_0), ((HB.out.cell (World.block_lt_of_cell? w _ hw196_1)).trans hw196_1), ((HB.out.cell (World.block_lt_of_cell? w _ hw196_2)).trans hw196_2), ((HB.out.cell (World.block_lt_of_cell? w _ hw196_3)).trans hw196_3), ((HB.out.cell (World.block_lt_of_cell? w _ hw196_4)).trans hw196_4), ((HB.out.cell (World.block_lt_of_cell? w _ hw196_5)).trans hw196_5), ((HB.out.cell (World.block_lt_of_cell? w _ hw196_6)).trans hw196_6), ((HB.out.cell (World.block_lt_of_cell? w _ hw196_7)).trans hw196_7), ((HB.out.cell (World.block_lt_of_cell? w _ hw196_8)).trans hw196_8), ((HB.out.cell (World.block_lt_of_cell? w _ hw196_9)).trans hw196_9), ((HB.out.cell (World.block_lt_of_cell? w _ hw196_10)).trans hw196_10), ((HB.out.cell (World.block_lt_of_cell? w _ hw196_11)).trans hw196_11), ((HB.out.cell (World.block_lt_of_cell? w _ hw196_12)).trans hw196_12), ((HB.out.cell (World.block_lt_of_cell? w _ hw196_13)).trans hw196_13), ((HB.out.cell (World.block_lt_of_cell? w _ hw196_14)).trans hw196_14), ((HB.out.cell (World.block_lt_of_cell? w _ hw196_15)).trans hw196_15), ((HB.out.cell (World.block_lt_of_cell? w _ hw197_0)).trans hw197_0), ((HB.out.cell (World.block_lt_of_cell? w _ hw198_0)).trans hw198_0), ((HB.out.cell (World.block_lt_of_cell? w _ hw198_1)).trans hw198_1), ((HB.out.cell (World.block_lt_of_cell? w _ hw198_2)).trans hw198_2), ((HB.out.cell (World.block_lt_of_cell? w _ hw198_3)).trans hw198_3), ((HB.out.cell (World.block_lt_of_cell? w _ hw198_4)).trans hw198_4), ((HB.out.cell (World.block_lt_of_cell? w _ hw198_5)).trans hw198_5), ((HB.out.cell (World.block_lt_of_cell? w _ hw198_6)).trans hw198_6), ((HB.out.cell (World.block_lt_of_cell? w _ hw198_7)).trans hw198_7), ((HB.out.cell (World.block_lt_of_cell? w _ hw198_8)).trans hw198_8), ((HB.out.cell (World.block_lt_of_cell? w _ hw198_9)).trans hw198_9), ((HB.out.cell (World.block_lt_of_cell? w _ hw198_10)).trans hw198_10), ((HB.out.cell (World.block_lt_of_cell? w _ hw198_11)).trans hw198_11), ((HB.out.cell (World.block_lt_of_cell? w _ hw198_12)).trans hw198_12), ((HB.out.cell (World.block_lt_of_cell? w _ hw198_13)).trans hw198_13), ((HB.out.cell (World.block_lt_of_cell? w _ hw198_14)).trans hw198_14), ((HB.out.cell (World.block_lt_of_cell? w _ hw198_15)).trans hw198_15)⟩ (fun hHeld => ?_); refine with_tabW burnbagref16_May.tab15 burnbagref16_May.bits15 (fun HT_ HW_ => ?_)
                                              generalize wr.drew = w27 at HB hx196_0 hx196_1 hx196_10 hx196_11 hx196_12 hx196_13 hx196_14 hx196_15 hx196_2 hx196_3 hx196_4 hx196_5 hx196_6 hx196_7 hx196_8 hx196_9 hx197_0 hx198_0 hx198_1 hx198_10 hx198_11 hx198_12 hx198_13 hx198_14 hx198_15 hx198_2 hx198_3 hx198_4 hx198_5 hx198_6 hx198_7 hx198_8 hx198_9 hHeld ⊢
                                              refine pure_ (i := 0) (N := some 64) (v := ?_) (a' := ?_) #[true, false, false, false, false, false, false, false, false, false, false, false, false, false, false, false, false, false, false, false, false] rfl rfl (any_of HT_.out (by kernel_rfl)) (fun _ _ _ h => h) (Or.inl ⟨by rfl, ?_⟩) ?_ ?_
                                              rotate_left
                                              · intro w'
                                                go_simp
                                                with_reducible rfl
                                              rotate_left
                                              · simp only [Act.put, List.setIfInBounds_toArray, List.set_cons_zero, List.set_cons_succ, i64_w, i32_w]
                                                rfl
                                              refine pure_ (i := 1) (N := some 65) (v := ?_) (a' := ?_) #[true, true, false, false, false, false, false, false, false, false, false, false, false, false, false, false, false, false, false, false, false] rfl rfl (any_of HT_.out (by kernel_rfl)) (fun _ _ _ h => h) (Or.inl ⟨by rfl, ?_⟩) ?_ ?_
                                              rotate_left
                                              · intro w'
                                                go_simp
                                                with_reducible rfl
                                              rotate_left
                                              · simp only [Act.put, List.setIfInBounds_toArray, List.set_cons_zero, List.set_cons_succ, i64_w, i32_w]
                                                rfl
                                              refine pure_ (i := 2) (N := some 66) (v := ?_) (a' := ?_) #[true, true, true, false, false, false, false, false, false, false, false, false, false, false, false, false, false, false, false, false, false] rfl rfl (any_of HT_.out (by kernel_rfl)) (fun _ _ _ h => h) (Or.inl ⟨by rfl, ?_⟩) ?_ ?_
                                              rotate_left
                                              · intro w'
                                                go_simp
                                                with_reducible rfl
                                              rotate_left
                                              · simp only [Act.put, List.setIfInBounds_toArray, List.set_cons_zero, List.set_cons_succ, i64_w, i32_w]
                                                rfl
                                              refine pure_ (i := 4) (N := some 68) (v := ?_) (a' := ?_) #[true, true, true, false, true, false, false, false, false, false, false, false, false, false, false, false, false, false, false, false, false] rfl rfl (any_of HT_.out (by kernel_rfl)) (fun _ _ _ h => h) (Or.inl ⟨by rfl, ?_⟩) ?_ ?_
                                              rotate_left
                                              · intro w'
                                                go_simp
                                                with_reducible rfl
                                              rotate_left
                                              · simp only [Act.put, List.setIfInBounds_toArray, List.set_cons_zero, List.set_cons_succ, i64_w, i32_w]
                                                rfl
                                              refine pure_ (i := 5) (N := some 69) (v := ?_) (a' := ?_) #[true, true, true, false, true, true, false, false, false, false, false, false, false, false, false, false, false, false, false, false, false] rfl rfl (any_of HT_.out (by kernel_rfl)) (fun _ _ _ h => h) (Or.inl ⟨by rfl, ?_⟩) ?_ ?_
                                              rotate_left
                                              · intro w'
                                                go_simp
                                                with_reducible rfl
                                              rotate_left
                                              · simp only [Act.put, List.setIfInBounds_toArray, List.set_cons_zero, List.set_cons_succ, i64_w, i32_w]
                                                rfl
                                              refine pure_ (i := 6) (N := some 70) (v := ?_) (a' := ?_) #[true, true, true, false, true, true, true, false, false, false, false, false, false, false, false, false, false, false, false, false, false] rfl rfl (any_of HT_.out (by kernel_rfl)) (fun _ _ _ h => h) (Or.inl ⟨by rfl, ?_⟩) ?_ ?_
                                              rotate_left
                                              · intro w'
                                                go_simp
                                                with_reducible rfl
                                              rotate_left
                                              · simp only [Act.put, List.setIfInBounds_toArray, List.set_cons_zero, List.set_cons_succ, i64_w, i32_w]
                                                rfl
                                              refine pure_ (i := 7) (N := some 71) (v := ?_) (a' := ?_) #[true, true, true, false, true, true, true, true, false, false, false, false, false, false, false, false, false, false, false, false, false] rfl rfl (any_of HT_.out (by kernel_rfl)) (fun _ _ _ h => h) (Or.inl ⟨by rfl, ?_⟩) ?_ ?_
                                              rotate_left
                                              · intro w'
                                                go_simp
                                                with_reducible rfl
                                              rotate_left
                                              · simp only [Act.put, List.setIfInBounds_toArray, List.set_cons_zero, List.set_cons_succ, i64_w, i32_w]
                                                rfl
                                              refine take_ (i := 3) (N := some 67) (v := ?_) (a' := ?_) #[true, true, true, true, true, true, true, true, false, false, false, false, false, false, false, false, false, false, false, false, false] rfl rfl (take_ofW HT_.out HW_.out (by kernel_rfl)) (fun _ _ _ h => h) (Or.inl ⟨by rfl, ?_⟩) hHeld ?_ ?_
                                              rotate_left
                                              · rintro w' ⟨s0, s1, s2, s3, s4, s5, s6, s7, s8, s9, s10, s11, s12, s13, s14, s15, s16, s17, s18, s19, s20, s21, s22, s23, s24, s25, s26, s27, s28, s29, s30, s31, s32⟩
                                                go_simp
                                                with_reducible rfl
                                              rotate_left
                                              · simp only [Act.put, List.setIfInBounds_toArray, List.set_cons_zero, List.set_cons_succ, i64_w, i32_w]
                                                rfl
                                              refine take_ (i := 8) (N := some 72) (v := ?_) (a' := ?_) #[true, true, true, true, true, true, true, true, true, false, false, false, false, false, false, false, false, false, false, false, false] rfl rfl (take_ofW HT_.out HW_.out (by kernel_rfl)) (fun _ _ _ h => h) (Or.inl ⟨by rfl, ?_⟩) hHeld ?_ ?_
                                              rotate_left
                                              · rintro w' ⟨s0, s1, s2, s3, s4, s5, s6, s7, s8, s9, s10, s11, s12, s13, s14, s15, s16, s17, s18, s19, s20, s21, s22, s23, s24, s25, s26, s27, s28, s29, s30, s31, s32⟩
                                                go_simp
                                                with_reducible rfl
                                              rotate_left
                                              · simp only [Act.put, List.setIfInBounds_toArray, List.set_cons_zero, List.set_cons_succ, i64_w, i32_w]
                                                rfl
                                              refine pure_ (i := 9) (N := some 73) (v := ?_) (a' := ?_) #[true, true, true, true, true, true, true, true, true, true, false, false, false, false, false, false, false, false, false, false, false] rfl rfl (any_of HT_.out (by kernel_rfl)) (fun _ _ _ h => h) (Or.inl ⟨by rfl, ?_⟩) ?_ ?_
                                              rotate_left
                                              · intro w'
                                                go_simp
                                                with_reducible rfl
                                              rotate_left
                                              · simp only [Act.put, List.setIfInBounds_toArray, List.set_cons_zero, List.set_cons_succ, i64_w, i32_w]
                                                rfl
                                              refine take_ (i := 10) (N := some 74) (v := ?_) (a' := ?_) #[true, true, true, true, true, true, true, true, true, true, true, false, false, false, false, false, false, false, false, false, false] rfl rfl (take_ofW HT_.out HW_.out (by kernel_rfl)) (fun _ _ _ h => h) (Or.inl ⟨by rfl, ?_⟩) hHeld ?_ ?_
                                              rotate_left
                                              · rintro w' ⟨s0, s1, s2, s3, s4, s5, s6, s7, s8, s9, s10, s11, s12, s13, s14, s15, s16, s17, s18, s19, s20, s21, s22, s23, s24, s25, s26, s27, s28, s29, s30, s31, s32⟩
                                                go_simp
                                                with_reducible rfl
                                              rotate_left
                                              · simp only [Act.put, List.setIfInBounds_toArray, List.set_cons_zero, List.set_cons_succ, i64_w, i32_w]
                                                rfl
                                              refine one_ (i := 11) (N := some 75) #[true, true, true, true, true, true, true, true, true, true, true, true, false, false, false, false, false, false, false, false, false] rfl rfl (one_of HT_.out (by kernel_rfl)) (by decide) (fun K hK => ?_)
                                              refine goes_ Tryz.func23 (by kernel_rfl) rfl #[.agg #[.int .i64 ((rd_T38 l0 x6_2).f0), .int .i64 ((rd_T38 l0 x6_2).f1.f0), .int .i64 ((rd_T38 l0 x6_2).f1.f1), .int .i64 ((rd_T38 l0 x6_2).f1.f2), .int .u64 ((rd_T38 l0 x6_2).f1.f3.f0), .int .u64 ((rd_T38 l0 x6_2).f1.f3.f1), .int .u64 ((rd_T38 l0 x6_2).f1.f4), .int .i64 ((rd_T38 l0 x6_2).f1.f5), .int .i64 ((rd_T38 l0 x6_2).f2.f0), .int .u64 ((rd_T38 l0 x6_2).f2.f1.f0), .int .u64 ((rd_T38 l0 x6_2).f2.f1.f1), .int .u64 ((rd_T38 l0 x6_2).f2.f2), .int .i64 ((rd_T38 l0 x6_2).f2.f3), .int .i64 ((rd_T38 l0 x6_2).f2.f4), .int .i64 ((rd_T38 l0 x6_2).f3), .int .i64 ((rd_T38 l0 x6_2).f4)], .agg #[.int .i64 ((rd_T38 l0 (rd l1 x8_4)).f0), .int .i64 ((rd_T38 l0 (rd l1 x8_4)).f1.f0), .int .i64 ((rd_T38 l0 (rd l1 x8_4)).f1.f1), .int .i64 ((rd_T38 l0 (rd l1 x8_4)).f1.f2), .int .u64 ((rd_T38 l0 (rd l1 x8_4)).f1.f3.f0), .int .u64 ((rd_T38 l0 (rd l1 x8_4)).f1.f3.f1), .int .u64 ((rd_T38 l0 (rd l1 x8_4)).f1.f4), .int .i64 ((rd_T38 l0 (rd l1 x8_4)).f1.f5), .int .i64 ((rd_T38 l0 (rd l1 x8_4)).f2.f0), .int .u64 ((rd_T38 l0 (rd l1 x8_4)).f2.f1.f0), .int .u64 ((rd_T38 l0 (rd l1 x8_4)).f2.f1.f1), .int .u64 ((rd_T38 l0 (rd l1 x8_4)).f2.f2), .int .i64 ((rd_T38 l0 (rd l1 x8_4)).f2.f3), .int .i64 ((rd_T38 l0 (rd l1 x8_4)).f2.f4), .int .i64 ((rd_T38 l0 (rd l1 x8_4)).f3), .int .i64 ((rd_T38 l0 (rd l1 x8_4)).f4)]] (by rfl) rfl rfl (by (try simp only [List.map_toArray, List.map_cons, List.map_nil]); first | done | rfl | (simp only [List.length_drop, List.length_take]; rfl)) ?_
                                              with_reducible refine (burnbagref14_Ahead.calls ((rd_T38 l0 x6_2).f0) ((rd_T38 l0 x6_2).f1.f0) ((rd_T38 l0 x6_2).f1.f1) ((rd_T38 l0 x6_2).f1.f2) ((rd_T38 l0 x6_2).f1.f3.f0) ((rd_T38 l0 x6_2).f1.f3.f1) ((rd_T38 l0 x6_2).f1.f4) ((rd_T38 l0 x6_2).f1.f5) ((rd_T38 l0 x6_2).f2.f0) ((rd_T38 l0 x6_2).f2.f1.f0) ((rd_T38 l0 x6_2).f2.f1.f1) ((rd_T38 l0 x6_2).f2.f2) ((rd_T38 l0 x6_2).f2.f3) ((rd_T38 l0 x6_2).f2.f4) ((rd_T38 l0 x6_2).f3) ((rd_T38 l0 x6_2).f4) ((rd_T38 l0 (rd l1 x8_4)).f0) ((rd_T38 l0 (rd l1 x8_4)).f1.f0) ((rd_T38 l0 (rd l1 x8_4)).f1.f1) ((rd_T38 l0 (rd l1 x8_4)).f1.f2) ((rd_T38 l0 (rd l1 x8_4)).f1.f3.f0) ((rd_T38 l0 (rd l1 x8_4)).f1.f3.f1) ((rd_T38 l0 (rd l1 x8_4)).f1.f4) ((rd_T38 l0 (rd l1 x8_4)).f1.f5) ((rd_T38 l0 (rd l1 x8_4)).f2.f0) ((rd_T38 l0 (rd l1 x8_4)).f2.f1.f0) ((rd_T38 l0 (rd l1 x8_4)).f2.f1.f1) ((rd_T38 l0 (rd l1 x8_4)).f2.f2) ((rd_T38 l0 (rd l1 x8_4)).f2.f3) ((rd_T38 l0 (rd l1 x8_4)).f2.f4) ((rd_T38 l0 (rd l1 x8_4)).f3) ((rd_T38 l0 (rd l1 x8_4)).f4) true _ A21.out).mono ?_
                                              rintro e w28 ⟨rfl, hb⟩
                                              refine ⟨_, rfl, ?_⟩
                                              have n0_ := Aside0.mk (below_step (by repeat (first | (with_reducible first | exact HB.out | apply below_alloc | apply pw_below_drewN | apply below_drew1) | exact HB.out)) hb)
                                              clear HB
                                              have HB := n0_
                                              clear n0_
                                              (try clear hb)
                                              (try clear hb2)
                                              (try clear hk)
                                              (try clear hi)
                                              refine hK.out _ _ ⟨((HB.out.cell (World.block_lt_of_cell? w _ hw196_0)).trans hw196_0), ((HB.out.cell (World.block_lt_of_cell? w _ hw196_1)).trans hw196_1), ((HB.out.cell (World.block_lt_of_cell? w _ hw196_2)).trans hw196_2), ((HB.out.cell (World.block_lt_of_cell? w _ hw196_3)).trans hw196_3), ((HB.out.cell (World.block_lt_of_cell? w _ hw196_4)).trans hw196_4), ((HB.out.cell (World.block_lt_of_cell? w _ hw196_5)).trans hw196_5), ((HB.out.cell (World.block_lt_of_cell? w _ hw196_6)).trans hw196_6), ((HB.out.cell (World.block_lt_of_cell? w _ hw196_7)).trans hw196_7), ((HB.out.cell (World.block_lt_of_cell? w _ hw196_8)).trans hw196_8), ((HB.out.cell (World.block_lt_of_cell? w _ hw196_9)).trans hw196_9), ((HB.out.cell (World.block_lt_of_cell? w _ hw196_10)).trans hw196_10), ((HB.out.cell (World.block_lt_of_cell? w _ hw196_11)).trans hw196_11), ((HB.out.cell (World.block_lt_of_cell? w _ hw196_12)).trans hw196_12), ((HB.out.cell (World.block_lt_of_cell? w _ hw196_13)).trans hw196_13), ((HB.out.cell (World.block_lt_of_cell? w _ hw196_14)).trans hw196_14), ((HB.out.cell (World.block_lt_of_cell? w _ hw196_15)).trans hw196_15), ((HB.out.cell (World.block_lt_of_cell? w _ hw197_0)).trans hw197_0), ((HB.out.cell (World.block_lt_of_cell? w _ hw198_0)).trans hw198_0), ((HB.out.cell (World.block_lt_of_cell? w _ hw198_1)).trans hw198_1), ((HB.out.cell (World.block_lt_of_cell? w _ hw198_2)).trans hw198_2), ((HB.out.cell (World.block_lt_of_cell? w _ hw198_3)).trans hw198_3), ((HB.out.cell (World.block_lt_of_cell? w _ hw198_4)).trans hw198_4), ((HB.out.cell (World.block_lt_of_cell? w _ hw198_5)).trans hw198_5), ((HB.out.cell (World.block_lt_of_cell? w _ hw198_6)).trans hw198_6), ((HB.out.cell (World.block_lt_of_cell? w _ hw198_7)).trans hw198_7), ((HB.out.cell (World.block_lt_of_cell? w _ hw198_8)).trans hw198_8), ((HB.out.cell (World.block_lt_of_cell? w _ hw198_9)).trans hw198_9), ((HB.out.cell (World.block_lt_of_cell? w _ hw198_10)).trans hw198_10), ((HB.out.cell (World.block_lt_of_cell? w _ hw198_11)).trans hw198_11), ((HB.out.cell (World.block_lt_of_cell? w _ hw198_12)).trans hw198_12), ((HB.out.cell (World.block_lt_of_cell? w _ hw198_13)).trans hw198_13), ((HB.out.cell (World.block_lt_of_cell? w _ hw198_14)).trans hw198_14), ((HB.out.cell (World.block_lt_of_cell? w _ hw198_15)).trans hw198_15)⟩ (fun hHeld => ?_)
                                              clear hK K
                                              refine norm_ (a' := ?_) ?_ ?_
                                              rotate_left
                                              · show Act.put _ (some 75) _ = _
                                                simp only [Act.put, List.setIfInBounds_toArray, List.set_cons_zero, List.set_cons_succ, i64_w, i32_w]
                                                rfl
                                              refine pure_ (i := 12) (N := some 76) (v := ?_) (a' := ?_) #[true, true, true, true, true, true, true, true, true, true, true, true, true, false, false, false, false, false, false, false, false] rfl rfl (any_of HT_.out (by kernel_rfl)) (fun _ _ _ h => h) (Or.inl ⟨by rfl, ?_⟩) ?_ ?_
                                              rotate_left
                                              · intro w'
                                                go_simp
                                                with_reducible rfl
                                              rotate_left
                                              · simp only [Act.put, List.setIfInBounds_toArray, List.set_cons_zero, List.set_cons_succ, i64_w, i32_w]
                                                rfl
                                              refine pure_ (i := 13) (N := some 77) (v := ?_) (a' := ?_) #[true, true, true, true, true, true, true, true, true, true, true, true, true, true, false, false, false, false, false, false, false] rfl rfl (any_of HT_.out (by kernel_rfl)) (fun _ _ _ h => h) (Or.inl ⟨by rfl, ?_⟩) ?_ ?_
                                              rotate_left
                                              · intro w'
                                                go_simp
                                                with_reducible rfl
                                              rotate_left
                                              · simp only [Act.put, List.setIfInBounds_toArray, List.set_cons_zero, List.set_cons_succ, i64_w, i32_w]
                                                rfl
                                              refine pure_ (i := 14) (N := some 78) (v := ?_) (a' := ?_) #[true, true, true, true, true, true, true, true, true, true, true, true, true, true, true, false, false, false, false, false, false] rfl rfl (any_of HT_.out (by kernel_rfl)) (fun _ _ _ h => h) (Or.inl ⟨by rfl, ?_⟩) ?_ ?_
                                              rotate_left
                                              · intro w'
                                                go_simp
                                                with_reducible rfl
                                              rotate_left
                                              · simp only [Act.put, List.setIfInBounds_toArray, List.set_cons_zero, List.set_cons_succ, i64_w, i32_w]
                                                rfl
                                              refine pure_ (i := 15) (N := some 79) (v := ?_) (a' := ?_) #[true, true, true, true, true, true, true, true, true, true, true, true, true, true, true, true, false, false, false, false, false] rfl rfl (any_of HT_.out (by kernel_rfl)) (fun _ _ _ h => h) (Or.inl ⟨by rfl, ?_⟩) ?_ ?_
                                              rotate_left
                                              · intro w'
                                                go_simp
                                                with_reducible rfl
                                              rotate_left
                                              · simp only [Act.put, List.setIfInBounds_toArray, List.set_cons_zero, List.set_cons_succ, i64_w, i32_w]
                                                rfl
                                              refine pure_ (i := 16) (N := some 80) (v := ?_) (a' := ?_) #[true, true, true, true, true, true, true, true, true, true, true, true, true, true, true, true, true, false, false, false, false] rfl rfl (any_of HT_.out (by kernel_rfl)) (fun _ _ _ h => h) (Or.inl ⟨by rfl, ?_⟩) ?_ ?_
                                              rotate_left
                                              · intro w'
                                                go_simp
                                                with_reducible rfl
                                              rotate_left
                                              · simp only [Act.put, List.setIfInBounds_toArray, List.set_cons_zero, List.set_cons_succ, i64_w, i32_w]
                                                rfl
                                              refine pure_ (i := 17) (N := some 81) (v := ?_) (a' := ?_) #[true, true, true, true, true, true, true, true, true, true, true, true, true, true, true, true, true, true, false, false, false] rfl rfl (any_of HT_.out (by kernel_rfl)) (fun _ _ _ h => h) (Or.inl ⟨by rfl, ?_⟩) ?_ ?_
                                              rotate_left
                                              · intro w'
                                                go_simp
                                                with_reducible rfl
                                              rotate_left
                                              · simp only [Act.put, List.setIfInBounds_toArray, List.set_cons_zero, List.set_cons_succ, i64_w, i32_w]
                                                rfl
                                              refine pure_ (i := 18) (N := some 82) (v := ?_) (a' := ?_) #[true, true, true, true, true, true, true, true, true, true, true, true, true, true, true, true, true, true, true, false, false] rfl rfl (any_of HT_.out (by kernel_rfl)) (fun _ _ _ h => h) (Or.inl ⟨by rfl, ?_⟩) ?_ ?_
                                              rotate_left
                                              · intro w'
                                                go_simp
                                                with_reducible rfl
                                              rotate_left
                                              · simp only [Act.put, List.setIfInBounds_toArray, List.set_cons_zero, List.set_cons_succ, i64_w, i32_w]
                                                rfl
                                              refine pure_ (i := 19) (N := some 83) (v := ?_) (a' := ?_) #[true, true, true, true, true, true, true, true, true, true, true, true, true, true, true, true, true, true, true, true, false] rfl rfl (any_of HT_.out (by kernel_rfl)) (fun _ _ _ h => h) (Or.inl ⟨by rfl, ?_⟩) ?_ ?_
                                              rotate_left
                                              · intro w'
                                                go_simp
                                                with_reducible rfl
                                              rotate_left
                                              · simp only [Act.put, List.setIfInBounds_toArray, List.set_cons_zero, List.set_cons_succ, i64_w, i32_w]
                                                rfl
                                              refine pure_ (i := 20) (N := some 84) (v := ?_) (a' := ?_) #[true, true, true, true, true, true, true, true, true, true, true, true, true, true, true, true, true, true, true, true, true] rfl rfl (any_of HT_.out (by kernel_rfl)) (fun _ _ _ h => h) (Or.inl ⟨by rfl, ?_⟩) ?_ ?_
                                              rotate_left
                                              · intro w'
                                                go_simp
                                                with_reducible rfl
                                              rotate_left
                                              · simp only [Act.put, List.setIfInBounds_toArray, List.set_cons_zero, List.set_cons_succ, i64_w, i32_w]
                                                rfl
                                              refine done_ (done_of HT_.out (by kernel_rfl)) ?_
                                              try go_wp2
                                              go_ret
                                              exact ⟨by first | rfl | (simp [errW_none, errW_some] <;> rfl) | (simp [*, errW_none, errW_some] <;> rfl), by repeat (first | (with_reducible first | exact HB.out | apply below_alloc | apply pw_below_drewN | apply below_drew1) | exact HB.out)⟩
                                            · rw [if_neg c26] at H
                                              have c26b0 : decide (x8_4 < t194) = false := decide_eq_false c26
                                              clear c26
                                              have H' := Aside0.mk H
                                              clear H
                                              try go_wp2
                                              have n0_ := Aside0.mk (below_drew1 HB.out)
                                              clear HB
                                              have HB := n0_
                                              clear n0_
                                              have p196 : 0 ≤ (x6_2 : Int) := of_decide_eq_true (by first | (with_reducible assumption) | assumption)
                                              have q196 : x6_2 < (l0.length : Int) := of_decide_eq_true (by first | (with_reducible assumption) | assumption)
                                              obtain ⟨ad196, e196, hx196_0, hx196_1, hx196_2, hx196_3, hx196_4, hx196_5, hx196_6, hx196_7, hx196_8, hx196_9, hx196_10, hx196_11, hx196_12, hx196_13, hx196_14, hx196_15⟩ := at_T38 HR0.out x6_2 p196 q196
                                              have hw196_15 := hx196_15
                                              have hw196_14 := hx196_14
                                              have hw196_13 := hx196_13
                                              have hw196_12 := hx196_12
                                              have hw196_11 := hx196_11
                                              have hw196_10 := hx196_10
                                              have hw196_9 := hx196_9
                                              have hw196_8 := hx196_8
                                              have hw196_7 := hx196_7
                                              have hw196_6 := hx196_6
                                              have hw196_5 := hx196_5
                                              have hw196_4 := hx196_4
                                              have hw196_3 := hx196_3
                                              have hw196_2 := hx196_2
                                              have hw196_1 := hx196_1
                                              have hw196_0 := hx196_0
                                              cases e196
                                              replace hx196_0 := (HB.out.cell (World.block_lt_of_cell? w _ hx196_0)).trans hx196_0
                                              replace hx196_1 := (HB.out.cell (World.block_lt_of_cell? w _ hx196_1)).trans hx196_1
                                              replace hx196_2 := (HB.out.cell (World.block_lt_of_cell? w _ hx196_2)).trans hx196_2
                                              replace hx196_3 := (HB.out.cell (World.block_lt_of_cell? w _ hx196_3)).trans hx196_3
                                              replace hx196_4 := (HB.out.cell (World.block_lt_of_cell? w _ hx196_4)).trans hx196_4
                                              replace hx196_5 := (HB.out.cell (World.block_lt_of_cell? w _ hx196_5)).trans hx196_5
                                              replace hx196_6 := (HB.out.cell (World.block_lt_of_cell? w _ hx196_6)).trans hx196_6
                                              replace hx196_7 := (HB.out.cell (World.block_lt_of_cell? w _ hx196_7)).trans hx196_7
                                              replace hx196_8 := (HB.out.cell (World.block_lt_of_cell? w _ hx196_8)).trans hx196_8
                                              replace hx196_9 := (HB.out.cell (World.block_lt_of_cell? w _ hx196_9)).trans hx196_9
                                              replace hx196_10 := (HB.out.cell (World.block_lt_of_cell? w _ hx196_10)).trans hx196_10
                                              replace hx196_11 := (HB.out.cell (World.block_lt_of_cell? w _ hx196_11)).trans hx196_11
                                              replace hx196_12 := (HB.out.cell (World.block_lt_of_cell? w _ hx196_12)).trans hx196_12
                                              replace hx196_13 := (HB.out.cell (World.block_lt_of_cell? w _ hx196_13)).trans hx196_13
                                              replace hx196_14 := (HB.out.cell (World.block_lt_of_cell? w _ hx196_14)).trans hx196_14
                                              replace hx196_15 := (HB.out.cell (World.block_lt_of_cell? w _ hx196_15)).trans hx196_15
                                              replace p196 := eq_true p196
                                              replace q196 := eq_true q196
                                              have p197 : 0 ≤ (x8_4 : Int) := of_decide_eq_true (by first | (with_reducible assumption) | assumption)
                                              have q197 : x8_4 < (l1.length : Int) := of_decide_eq_true (by first | (with_reducible assumption) | assumption)
                                              obtain ⟨ad197, e197, hx197_0⟩ := Kd.at_int HR1.out x8_4 p197 q197
                                              have hw197_0 := hx197_0
                                              cases e197
                                              replace hx197_0 := (HB.out.cell (World.block_lt_of_cell? w _ hx197_0)).trans hx197_0
                                              replace p197 := eq_true p197
                                              replace q197 := eq_true q197
                                              have p198 : 0 ≤ ((rd l1 x8_4) : Int) := of_decide_eq_true (by first | (with_reducible assumption) | assumption)
                                              have q198 : (rd l1 x8_4) < (l0.length : Int) := of_decide_eq_true (by first | (with_reducible assumption) | assumption)
                                              obtain ⟨ad198, e198, hx198_0, hx198_1, hx198_2, hx198_3, hx198_4, hx198_5, hx198_6, hx198_7, hx198_8, hx198_9, hx198_10, hx198_11, hx198_12, hx198_13, hx198_14, hx198_15⟩ := at_T38 HR0.out (rd l1 x8_4) p198 q198
                                              have hw198_15 := hx198_15
                                              have hw198_14 := hx198_14
                                              have hw198_13 := hx198_13
                                              have hw198_12 := hx198_12
                                              have hw198_11 := hx198_11
                                              have hw198_10 := hx198_10
                                              have hw198_9 := hx198_9
                                              have hw198_8 := hx198_8
                                              have hw198_7 := hx198_7
                                              have hw198_6 := hx198_6
                                              have hw198_5 := hx198_5
                                              have hw198_4 := hx198_4
                                              have hw198_3 := hx198_3
                                              have hw198_2 := hx198_2
                                              have hw198_1 := hx198_1
                                              have hw198_0 := hx198_0
                                              obtain rfl : ad196 = ad198 := (by injection e198)
                                              replace hx198_0 := (HB.out.cell (World.block_lt_of_cell? w _ hx198_0)).trans hx198_0
                                              replace hx198_1 := (HB.out.cell (World.block_lt_of_cell? w _ hx198_1)).trans hx198_1
                                              replace hx198_2 := (HB.out.cell (World.block_lt_of_cell? w _ hx198_2)).trans hx198_2
                                              replace hx198_3 := (HB.out.cell (World.block_lt_of_cell? w _ hx198_3)).trans hx198_3
                                              replace hx198_4 := (HB.out.cell (World.block_lt_of_cell? w _ hx198_4)).trans hx198_4
                                              replace hx198_5 := (HB.out.cell (World.block_lt_of_cell? w _ hx198_5)).trans hx198_5
                                              replace hx198_6 := (HB.out.cell (World.block_lt_of_cell? w _ hx198_6)).trans hx198_6
                                              replace hx198_7 := (HB.out.cell (World.block_lt_of_cell? w _ hx198_7)).trans hx198_7
                                              replace hx198_8 := (HB.out.cell (World.block_lt_of_cell? w _ hx198_8)).trans hx198_8
                                              replace hx198_9 := (HB.out.cell (World.block_lt_of_cell? w _ hx198_9)).trans hx198_9
                                              replace hx198_10 := (HB.out.cell (World.block_lt_of_cell? w _ hx198_10)).trans hx198_10
                                              replace hx198_11 := (HB.out.cell (World.block_lt_of_cell? w _ hx198_11)).trans hx198_11
                                              replace hx198_12 := (HB.out.cell (World.block_lt_of_cell? w _ hx198_12)).trans hx198_12
                                              replace hx198_13 := (HB.out.cell (World.block_lt_of_cell? w _ hx198_13)).trans hx198_13
                                              replace hx198_14 := (HB.out.cell (World.block_lt_of_cell? w _ hx198_14)).trans hx198_14
                                              replace hx198_15 := (HB.out.cell (World.block_lt_of_cell? w _ hx198_15)).trans hx198_15
                                              replace p198 := eq_true p198
                                              replace q198 := eq_true q198
                                              refine start_ (n := 21) (S := fun w' => w'.cell? (ad196.add ((x6_2).toNat * 16)) = some (.int .i64 ((rd_T38 l0 x6_2).f0)) ∧ w'.cell? ⟨(ad196.add ((x6_2).toNat * 16)).block, (ad196.add ((x6_2).toNat * 16)).off + 1, none⟩ = some (.int .i64 ((rd_T38 l0 x6_2).f1.f0)) ∧ w'.cell? ⟨(ad196.add ((x6_2).toNat * 16)).block, (ad196.add ((x6_2).toNat * 16)).off + 2, none⟩ = some (.int .i64 ((rd_T38 l0 x6_2).f1.f1)) ∧ w'.cell? ⟨(ad196.add ((x6_2).toNat * 16)).block, (ad196.add ((x6_2).toNat * 16)).off + 3, none⟩ = some (.int .i64 ((rd_T38 l0 x6_2).f1.f2)) ∧ w'.cell? ⟨(ad196.add ((x6_2).toNat * 16)).block, (ad196.add ((x6_2).toNat * 16)).off + 4, none⟩ = some (.int .u64 ((rd_T38 l0 x6_2).f1.f3.f0)) ∧ w'.cell? ⟨(ad196.add ((x6_2).toNat * 16)).block, (ad196.add ((x6_2).toNat * 16)).off + 5, none⟩ = some (.int .u64 ((rd_T38 l0 x6_2).f1.f3.f1)) ∧ w'.cell? ⟨(ad196.add ((x6_2).toNat * 16)).block, (ad196.add ((x6_2).toNat * 16)).off + 6, none⟩ = some (.int .u64 ((rd_T38 l0 x6_2).f1.f4)) ∧ w'.cell? ⟨(ad196.add ((x6_2).toNat * 16)).block, (ad196.add ((x6_2).toNat * 16)).off + 7, none⟩ = some (.int .i64 ((rd_T38 l0 x6_2).f1.f5)) ∧ w'.cell? ⟨(ad196.add ((x6_2).toNat * 16)).block, (ad196.add ((x6_2).toNat * 16)).off + 8, none⟩ = some (.int .i64 ((rd_T38 l0 x6_2).f2.f0)) ∧ w'.cell? ⟨(ad196.add ((x6_2).toNat * 16)).block, (ad196.add ((x6_2).toNat * 16)).off + 9, none⟩ = some (.int .u64 ((rd_T38 l0 x6_2).f2.f1.f0)) ∧ w'.cell? ⟨(ad196.add ((x6_2).toNat * 16)).block, (ad196.add ((x6_2).toNat * 16)).off + 10, none⟩ = some (.int .u64 ((rd_T38 l0 x6_2).f2.f1.f1)) ∧ w'.cell? ⟨(ad196.add ((x6_2).toNat * 16)).block, (ad196.add ((x6_2).toNat * 16)).off + 11, none⟩ = some (.int .u64 ((rd_T38 l0 x6_2).f2.f2)) ∧ w'.cell? ⟨(ad196.add ((x6_2).toNat * 16)).block, (ad196.add ((x6_2).toNat * 16)).off + 12, none⟩ = some (.int .i64 ((rd_T38 l0 x6_2).f2.f3)) ∧ w'.cell? ⟨(ad196.add ((x6_2).toNat * 16)).block, (ad196.add ((x6_2).toNat * 16)).off + 13, none⟩ = some (.int .i64 ((rd_T38 l0 x6_2).f2.f4)) ∧ w'.cell? ⟨(ad196.add ((x6_2).toNat * 16)).block, (ad196.add ((x6_2).toNat * 16)).off + 14, none⟩ = some (.int .i64 ((rd_T38 l0 x6_2).f3)) ∧ w'.cell? ⟨(ad196.add ((x6_2).toNat * 16)).block, (ad196.add ((x6_2).toNat * 16)).off + 15, none⟩ = some (.int .i64 ((rd_T38 l0 x6_2).f4)) ∧ w'.cell? (ad197.add (x8_4).toNat) = some (.int .i64 (rd l1 x8_4)) ∧ w'.cell? (ad196.add (((rd l1 x8_4)).toNat * 16)) = some (.int .i64 ((rd_T38 l0 (rd l1 x8_4)).f0)) ∧ w'.cell? ⟨(ad196.add (((rd l1 x8_4)).toNat * 16)).block, (ad196.add (((rd l1 x8_4)).toNat * 16)).off + 1, none⟩ = some (.int .i64 ((rd_T38 l0 (rd l1 x8_4)).f1.f0)) ∧ w'.cell? ⟨(ad196.add (((rd l1 x8_4)).toNat * 16)).block, (ad196.add (((rd l1 x8_4)).toNat * 16)).off + 2, none⟩ = some (.int .i64 ((rd_T38 l0 (rd l1 x8_4)).f1.f1)) ∧ w'.cell? ⟨(ad196.add (((rd l1 x8_4)).toNat * 16)).block, (ad196.add (((rd l1 x8_4)).toNat * 16)).off + 3, none⟩ = some (.int .i64 ((rd_T38 l0 (rd l1 x8_4)).f1.f2)) ∧ w'.cell? ⟨(ad196.add (((rd l1 x8_4)).toNat * 16)).block, (ad196.add (((rd l1 x8_4)).toNat * 16)).off + 4, none⟩ = some (.int .u64 ((rd_T38 l0 (rd l1 x8_4)).f1.f3.f0)) ∧ w'.cell? ⟨(ad196.add (((rd l1 x8_4)).toNat * 16)).block, (ad196.add (((rd l1 x8_4)).toNat * 16)).off + 5, none⟩ = some (.int .u64 ((rd_T38 l0 (rd l1 x8_4)).f1.f3.f1)) ∧ w'.cell? ⟨(ad196.add (((rd l1 x8_4)).toNat * 16)).block, (ad196.add (((rd l1 x8_4)).toNat * 16)).off + 6, none⟩ = some (.int .u64 ((rd_T38 l0 (rd l1 x8_4)).f1.f4)) ∧ w'.cell? ⟨(ad196.add (((rd l1 x8_4)).toNat * 16)).block, (ad196.add (((rd l1 x8_4)).toNat * 16)).off + 7, none⟩ = some (.int .i64 ((rd_T38 l0 (rd l1 x8_4)).f1.f5)) ∧ w'.cell? ⟨(ad196.add (((rd l1 x8_4)).toNat * 16)).block, (ad196.add (((rd l1 x8_4)).toNat * 16)).off + 8, none⟩ = some (.int .i64 ((rd_T38 l0 (rd l1 x8_4)).f2.f0)) ∧ w'.cell? ⟨(ad196.add (((rd l1 x8_4)).toNat * 16)).block, (ad196.add (((rd l1 x8_4)).toNat * 16)).off + 9, none⟩ = some (.int .u64 ((rd_T38 l0 (rd l1 x8_4)).f2.f1.f0)) ∧ w'.cell? ⟨(ad196.add (((rd l1 x8_4)).toNat * 16)).block, (ad196.add (((rd l1 x8_4)).toNat * 16)).off + 10, none⟩ = some (.int .u64 ((rd_T38 l0 (rd l1 x8_4)).f2.f1.f1)) ∧ w'.cell? ⟨(ad196.add (((rd l1 x8_4)).toNat * 16)).block, (ad196.add (((rd l1 x8_4)).toNat * 16)).off + 11, none⟩ = some (.int .u64 ((rd_T38 l0 (rd l1 x8_4)).f2.f2)) ∧ w'.cell? ⟨(ad196.add (((rd l1 x8_4)).toNat * 16)).block, (ad196.add (((rd l1 x8_4)).toNat * 16)).off + 12, none⟩ = some (.int .i64 ((rd_T38 l0 (rd l1 x8_4)).f2.f3)) ∧ w'.cell? ⟨(ad196.add (((rd l1 x8_4)).toNat * 16)).block, (ad196.add (((rd l1 x8_4)).toNat * 16)).off + 13, none⟩ = some (.int .i64 ((rd_T38 l0 (rd l1 x8_4)).f2.f4)) ∧ w'.cell? ⟨(ad196.add (((rd l1 x8_4)).toNat * 16)).block, (ad196.add (((rd l1 x8_4)).toNat * 16)).off + 14, none⟩ = some (.int .i64 ((rd_T38 l0 (rd l1 x8_4)).f3)) ∧ w'.cell? ⟨(ad196.add (((rd l1 x8_4)).toNat * 16)).block, (ad196.add (((rd l1 x8_4)).toNat * 16)).off + 15, none⟩ = some (.int .i64 ((rd_T38 l0 (rd l1 x8_4)).f4))) (ds := []) #[false, false, false, false, false, false, false, false, false, false, false, false, false, false, false, false, false, false, false, false, false] (by kernel_rfl) rfl rfl ⟨((HB.out.cell (World.block_lt_of_cell? w _ hw196_0)).trans hw196_0), ((HB.out.cell (World.block_lt_of_cell? w _ hw196_1)).trans hw196_1), ((HB.out.cell (World.block_lt_of_cell? w _ hw196_2)).trans hw196_2), ((HB.out.cell (World.block_lt_of_cell? w _ hw196_3)).trans hw196_3), ((HB.out.cell (World.block_lt_of_cell? w _ hw196_4)).trans hw196_4), ((HB.out.cell (World.block_lt_of_cell? w _ hw196_5)).trans hw196_5), ((HB.out.cell (World.block_lt_of_cell? w _ hw196_6)).trans hw196_6), ((HB.out.cell (World.block_lt_of_cell? w _ hw196_7)).trans hw196_7), ((HB.out.cell (World.block_lt_of_cell? w _ hw196_8)).trans hw196_8), ((HB.out.cell (World.block_lt_of_cell? w _ hw196_9)).trans hw196_9), ((HB.out.cell (World.block_lt_of_cell? w _ hw196_10)).trans hw196_10), ((HB.out.cell (World.block_lt_of_cell? w _ hw196_11)).trans hw196_11), ((HB.out.cell (World.block_lt_of_cell? w _ hw196_12)).trans hw196_12), ((HB.out.cell (World.block_lt_of_cell? w _ hw196_13)).trans hw196_13), ((HB.out.cell (World.block_lt_of_cell? w _ hw196_14)).trans hw196_14), ((HB.out.cell (World.block_lt_of_cell? w _ hw196_15)).trans hw196_15), ((HB.out.cell (World.block_lt_of_cell? w _ hw197_0)).trans hw197_0), ((HB.out.cell (World.block_lt_of_cell? w _ hw198_0)).trans hw198_0), ((HB.out.cell (World.block_lt_of_cell? w _ hw198_1)).trans hw198_1), ((HB.out.cell (World.block_lt_of_cell? w _ hw198_2)).trans hw198_2), ((HB.out.cell (World.block_lt_of_cell? w _ hw198_3)).trans hw198_3), ((HB.out.cell (World.block_lt_of_cell? w _ hw198_4)).trans hw198_4), ((HB.out.cell (World.block_lt_of_cell? w _ hw198_5)).trans hw198_5), ((HB.out.cell (World.block_lt_of_cell? w _ hw198_6)).trans hw198_6), ((HB.out.cell (World.block_lt_of_cell? w _ hw198_7)).trans hw198_7), ((HB.out.cell (World.block_lt_of_cell? w _ hw198_8)).trans hw198_8), ((HB.out.cell (World.block_lt_of_cell? w _ hw198_9)).trans hw198_9), ((HB.out.cell (World.block_lt_of_cell? w _ hw198_10)).trans hw198_10), ((HB.out.cell (World.block_lt_of_cell? w _ hw198_11)).trans hw198_11), ((HB.out.cell (World.block_lt_of_cell? w _ hw198_12)).trans hw198_12), ((HB.out.cell (World.block_lt_of_cell? w _ hw198_13)).trans hw198_13), ((HB.out.cell (World.block_lt_of_cell? w _ hw198_14)).trans hw198_14), ((HB.out.cell (World.block_lt_of_cell? w _ hw198_15)).trans hw198_15)⟩ (fun hHeld => ?_); refine with_tabW burnbagref16_May.tab15 burnbagref16_May.bits15 (fun HT_ HW_ => ?_)
                                              generalize wr.drew = w29 at HB hx196_0 hx196_1 hx196_10 hx196_11 hx196_12 hx196_13 hx196_14 hx196_15 hx196_2 hx196_3 hx196_4 hx196_5 hx196_6 hx196_7 hx196_8 hx196_9 hx197_0 hx198_0 hx198_1 hx198_10 hx198_11 hx198_12 hx198_13 hx198_14 hx198_15 hx198_2 hx198_3 hx198_4 hx198_5 hx198_6 hx198_7 hx198_8 hx198_9 hHeld ⊢
                                              refine pure_ (i := 0) (N := some 64) (v := ?_) (a' := ?_) #[true, false, false, false, false, false, false, false, false, false, false, false, false, false, false, false, false, false, false, false, false] rfl rfl (any_of HT_.out (by kernel_rfl)) (fun _ _ _ h => h) (Or.inl ⟨by rfl, ?_⟩) ?_ ?_
                                              rotate_left
                                              · intro w'
                                                go_simp
                                                with_reducible rfl
                                              rotate_left
                                              · simp only [Act.put, List.setIfInBounds_toArray, List.set_cons_zero, List.set_cons_succ, i64_w, i32_w]
                                                rfl
                                              refine pure_ (i := 1) (N := some 65) (v := ?_) (a' := ?_) #[true, true, false, false, false, false, false, false, false, false, false, false, false, false, false, false, false, false, false, false, false] rfl rfl (any_of HT_.out (by kernel_rfl)) (fun _ _ _ h => h) (Or.inl ⟨by rfl, ?_⟩) ?_ ?_
                                              rotate_left
                                              · intro w'
                                                go_simp
                                                with_reducible rfl
                                              rotate_left
                                              · simp only [Act.put, List.setIfInBounds_toArray, List.set_cons_zero, List.set_cons_succ, i64_w, i32_w]
                                                rfl
                                              refine pure_ (i := 2) (N := some 66) (v := ?_) (a' := ?_) #[true, true, true, false, false, false, false, false, false, false, false, false, false, false, false, false, false, false, false, false, false] rfl rfl (any_of HT_.out (by kernel_rfl)) (fun _ _ _ h => h) (Or.inl ⟨by rfl, ?_⟩) ?_ ?_
                                              rotate_left
                                              · intro w'
                                                go_simp
                                                with_reducible rfl
                                              rotate_left
                                              · simp only [Act.put, List.setIfInBounds_toArray, List.set_cons_zero, List.set_cons_succ, i64_w, i32_w]
                                                rfl
                                              refine pure_ (i := 4) (N := some 68) (v := ?_) (a' := ?_) #[true, true, true, false, true, false, false, false, false, false, false, false, false, false, false, false, false, false, false, false, false] rfl rfl (any_of HT_.out (by kernel_rfl)) (fun _ _ _ h => h) (Or.inl ⟨by rfl, ?_⟩) ?_ ?_
                                              rotate_left
                                              · intro w'
                                                go_simp
                                                with_reducible rfl
                                              rotate_left
                                              · simp only [Act.put, List.setIfInBounds_toArray, List.set_cons_zero, List.set_cons_succ, i64_w, i32_w]
                                                rfl
                                              refine pure_ (i := 5) (N := some 69) (v := ?_) (a' := ?_) #[true, true, true, false, true, true, false, false, false, false, false, false, false, false, false, false, false, false, false, false, false] rfl rfl (any_of HT_.out (by kernel_rfl)) (fun _ _ _ h => h) (Or.inl ⟨by rfl, ?_⟩) ?_ ?_
                                              rotate_left
                                              · intro w'
                                                go_simp
                                                with_reducible rfl
                                              rotate_left
                                              · simp only [Act.put, List.setIfInBounds_toArray, List.set_cons_zero, List.set_cons_succ, i64_w, i32_w]
                                                rfl
                                              refine pure_ (i := 6) (N := some 70) (v := ?_) (a' := ?_) #[true, true, true, false, true, true, true, false, false, false, false, false, false, false, false, false, false, false, false, false, false] rfl rfl (any_of HT_.out (by kernel_rfl)) (fun _ _ _ h => h) (Or.inl ⟨by rfl, ?_⟩) ?_ ?_
                                              rotate_left
                                              · intro w'
                                                go_simp
                                                with_reducible rfl
                                              rotate_left
                                              · simp only [Act.put, List.setIfInBounds_toArray, List.set_cons_zero, List.set_cons_succ, i64_w, i32_w]
                                                rfl
                                              refine pure_ (i := 7) (N := some 71) (v := ?_) (a' := ?_) #[true, true, true, false, true, true, true, true, false, false, false, false, false, false, false, false, false, false, false, false, false] rfl rfl (any_of HT_.out (by kernel_rfl)) (fun _ _ _ h => h) (Or.inl ⟨by rfl, ?_⟩) ?_ ?_
                                              rotate_left
                                              · intro w'
                                                go_simp
                                                with_reducible rfl
                                              rotate_left
                                              · simp only [Act.put, List.setIfInBounds_toArray, List.set_cons_zero, List.set_cons_succ, i64_w, i32_w]
                                                rfl
                                              refine take_ (i := 3) (N := some 67) (v := ?_) (a' := ?_) #[true, true, true, true, true, true, true, true, false, false, false, false, false, false, false, false, false, false, false, false, false] rfl rfl (take_ofW HT_.out HW_.out (by kernel_rfl)) (fun _ _ _ h => h) (Or.inl ⟨by rfl, ?_⟩) hHeld ?_ ?_
                                              rotate_left
                                              · rintro w' ⟨s0, s1, s2, s3, s4, s5, s6, s7, s8, s9, s10, s11, s12, s13, s14, s15, s16, s17, s18, s19, s20, s21, s22, s23, s24, s25, s26, s27, s28, s29, s30, s31, s32⟩
                                                go_simp
                                                with_reducible rfl
                                              rotate_left
                                              · simp only [Act.put, List.setIfInBounds_toArray, List.set_cons_zero, List.set_cons_succ, i64_w, i32_w]
                                                rfl
                                              refine take_ (i := 8) (N := some 72) (v := ?_) (a' := ?_) #[true, true, true, true, true, true, true, true, true, false, false, false, false, false, false, false, false, false, false, false, false] rfl rfl (take_ofW HT_.out HW_.out (by kernel_rfl)) (fun _ _ _ h => h) (Or.inl ⟨by rfl, ?_⟩) hHeld ?_ ?_
                                              rotate_left
                                              · rintro w' ⟨s0, s1, s2, s3, s4, s5, s6, s7, s8, s9, s10, s11, s12, s13, s14, s15, s16, s17, s18, s19, s20, s21, s22, s23, s24, s25, s26, s27, s28, s29, s30, s31, s32⟩
                                                go_simp
                                                with_reducible rfl
                                              rotate_left
                                              · simp only [Act.put, List.setIfInBounds_toArray, List.set_cons_zero, List.set_cons_succ, i64_w, i32_w]
                                                rfl
                                              refine pure_ (i := 9) (N := some 73) (v := ?_) (a' := ?_) #[true, true, true, true, true, true, true, true, true, true, false, false, false, false, false, false, false, false, false, false, false] rfl rfl (any_of HT_.out (by kernel_rfl)) (fun _ _ _ h => h) (Or.inl ⟨by rfl, ?_⟩) ?_ ?_
                                              rotate_left
                                              · intro w'
                                                go_simp
                                                with_reducible rfl
                                              rotate_left
                                              · simp only [Act.put, List.setIfInBounds_toArray, List.set_cons_zero, List.set_cons_succ, i64_w, i32_w]
                                                rfl
                                              refine take_ (i := 10) (N := some 74) (v := ?_) (a' := ?_) #[true, true, true, true, true, true, true, true, true, true, true, false, false, false, false, false, false, false, false, false, false] rfl rfl (take_ofW HT_.out HW_.out (by kernel_rfl)) (fun _ _ _ h => h) (Or.inl ⟨by rfl, ?_⟩) hHeld ?_ ?_
                                              rotate_left
                                              · rintro w' ⟨s0, s1, s2, s3, s4, s5, s6, s7, s8, s9, s10, s11, s12, s13, s14, s15, s16, s17, s18, s19, s20, s21, s22, s23, s24, s25, s26, s27, s28, s29, s30, s31, s32⟩
                                                go_simp
                                                with_reducible rfl
                                              rotate_left
                                              · simp only [Act.put, List.setIfInBounds_toArray, List.set_cons_zero, List.set_cons_succ, i64_w, i32_w]
                                                rfl
                                              refine one_ (i := 11) (N := some 75) #[true, true, true, true, true, true, true, true, true, true, true, true, false, false, false, false, false, false, false, false, false] rfl rfl (one_of HT_.out (by kernel_rfl)) (by decide) (fun K hK => ?_)
                                              refine goes_ Tryz.func23 (by kernel_rfl) rfl #[.agg #[.int .i64 ((rd_T38 l0 x6_2).f0), .int .i64 ((rd_T38 l0 x6_2).f1.f0), .int .i64 ((rd_T38 l0 x6_2).f1.f1), .int .i64 ((rd_T38 l0 x6_2).f1.f2), .int .u64 ((rd_T38 l0 x6_2).f1.f3.f0), .int .u64 ((rd_T38 l0 x6_2).f1.f3.f1), .int .u64 ((rd_T38 l0 x6_2).f1.f4), .int .i64 ((rd_T38 l0 x6_2).f1.f5), .int .i64 ((rd_T38 l0 x6_2).f2.f0), .int .u64 ((rd_T38 l0 x6_2).f2.f1.f0), .int .u64 ((rd_T38 l0 x6_2).f2.f1.f1), .int .u64 ((rd_T38 l0 x6_2).f2.f2), .int .i64 ((rd_T38 l0 x6_2).f2.f3), .int .i64 ((rd_T38 l0 x6_2).f2.f4), .int .i64 ((rd_T38 l0 x6_2).f3), .int .i64 ((rd_T38 l0 x6_2).f4)], .agg #[.int .i64 ((rd_T38 l0 (rd l1 x8_4)).f0), .int .i64 ((rd_T38 l0 (rd l1 x8_4)).f1.f0), .int .i64 ((rd_T38 l0 (rd l1 x8_4)).f1.f1), .int .i64 ((rd_T38 l0 (rd l1 x8_4)).f1.f2), .int .u64 ((rd_T38 l0 (rd l1 x8_4)).f1.f3.f0), .int .u64 ((rd_T38 l0 (rd l1 x8_4)).f1.f3.f1), .int .u64 ((rd_T38 l0 (rd l1 x8_4)).f1.f4), .int .i64 ((rd_T38 l0 (rd l1 x8_4)).f1.f5), .int .i64 ((rd_T38 l0 (rd l1 x8_4)).f2.f0), .int .u64 ((rd_T38 l0 (rd l1 x8_4)).f2.f1.f0), .int .u64 ((rd_T38 l0 (rd l1 x8_4)).f2.f1.f1), .int .u64 ((rd_T38 l0 (rd l1 x8_4)).f2.f2), .int .i64 ((rd_T38 l0 (rd l1 x8_4)).f2.f3), .int .i64 ((rd_T38 l0 (rd l1 x8_4)).f2.f4), .int .i64 ((rd_T38 l0 (rd l1 x8_4)).f3), .int .i64 ((rd_T38 l0 (rd l1 x8_4)).f4)]] (by rfl) rfl rfl (by (try simp only [List.map_toArray, List.map_cons, List.map_nil]); first | done | rfl | (simp only [List.length_drop, List.length_take]; rfl)) ?_
                                              with_reducible refine (burnbagref14_Ahead.calls ((rd_T38 l0 x6_2).f0) ((rd_T38 l0 x6_2).f1.f0) ((rd_T38 l0 x6_2).f1.f1) ((rd_T38 l0 x6_2).f1.f2) ((rd_T38 l0 x6_2).f1.f3.f0) ((rd_T38 l0 x6_2).f1.f3.f1) ((rd_T38 l0 x6_2).f1.f4) ((rd_T38 l0 x6_2).f1.f5) ((rd_T38 l0 x6_2).f2.f0) ((rd_T38 l0 x6_2).f2.f1.f0) ((rd_T38 l0 x6_2).f2.f1.f1) ((rd_T38 l0 x6_2).f2.f2) ((rd_T38 l0 x6_2).f2.f3) ((rd_T38 l0 x6_2).f2.f4) ((rd_T38 l0 x6_2).f3) ((rd_T38 l0 x6_2).f4) ((rd_T38 l0 (rd l1 x8_4)).f0) ((rd_T38 l0 (rd l1 x8_4)).f1.f0) ((rd_T38 l0 (rd l1 x8_4)).f1.f1) ((rd_T38 l0 (rd l1 x8_4)).f1.f2) ((rd_T38 l0 (rd l1 x8_4)).f1.f3.f0) ((rd_T38 l0 (rd l1 x8_4)).f1.f3.f1) ((rd_T38 l0 (rd l1 x8_4)).f1.f4) ((rd_T38 l0 (rd l1 x8_4)).f1.f5) ((rd_T38 l0 (rd l1 x8_4)).f2.f0) ((rd_T38 l0 (rd l1 x8_4)).f2.f1.f0) ((rd_T38 l0 (rd l1 x8_4)).f2.f1.f1) ((rd_T38 l0 (rd l1 x8_4)).f2.f2) ((rd_T38 l0 (rd l1 x8_4)).f2.f3) ((rd_T38 l0 (rd l1 x8_4)).f2.f4) ((rd_T38 l0 (rd l1 x8_4)).f3) ((rd_T38 l0 (rd l1 x8_4)).f4) true _ A21.out).mono ?_
                                              rintro e w30 ⟨rfl, hb⟩
                                              refine ⟨_, rfl, ?_⟩
                                              have n0_ := Aside0.mk (below_step (by repeat (first | (with_reducible first | exact HB.out | apply below_alloc | apply pw_below_drewN | apply below_drew1) | exact HB.out)) hb)
                                              clear HB
                                              have HB := n0_
                                              clear n0_
                                              (try clear hb)
                                              (try clear hb2)
                                              (try clear hk)
                                              (try clear hi)
                                              refine hK.out _ _ ⟨((HB.out.cell (World.block_lt_of_cell? w _ hw196_0)).trans hw196_0), ((HB.out.cell (World.block_lt_of_cell? w _ hw196_1)).trans hw196_1), ((HB.out.cell (World.block_lt_of_cell? w _ hw196_2)).trans hw196_2), ((HB.out.cell (World.block_lt_of_cell? w _ hw196_3)).trans hw196_3), ((HB.out.cell (World.block_lt_of_cell? w _ hw196_4)).trans hw196_4), ((HB.out.cell (World.block_lt_of_cell? w _ hw196_5)).trans hw196_5), ((HB.out.cell (World.block_lt_of_cell? w _ hw196_6)).trans hw196_6), ((HB.out.cell (World.block_lt_of_cell? w _ hw196_7)).trans hw196_7), ((HB.out.cell (World.block_lt_of_cell? w _ hw196_8)).trans hw196_8), ((HB.out.cell (World.block_lt_of_cell? w _ hw196_9)).trans hw196_9), ((HB.out.cell (World.block_lt_of_cell? w _ hw196_10)).trans hw196_10), ((HB.out.cell (World.block_lt_of_cell? w _ hw196_11)).trans hw196_11), ((HB.out.cell (World.block_lt_of_cell? w _ hw196_12)).trans hw196_12), ((HB.out.cell (World.block_lt_of_cell? w _ hw196_13)).trans hw196_13), ((HB.out.cell (World.block_lt_of_cell? w _ hw196_14)).trans hw196_14), ((HB.out.cell (World.block_lt_of_cell? w _ hw196_15)).trans hw196_15), ((HB.out.cell (World.block_lt_of_cell? w _ hw197_0)).trans hw197_0), ((HB.out.cell (World.block_lt_of_cell? w _ hw198_0)).trans hw198_0), ((HB.out.cell (World.block_lt_of_cell? w _ hw198_1)).trans hw198_1), ((HB.out.cell (World.block_lt_of_cell? w _ hw198_2)).trans hw198_2), ((HB.out.cell (World.block_lt_of_cell? w _ hw198_3)).trans hw198_3), ((HB.out.cell (World.block_lt_of_cell? w _ hw198_4)).trans hw198_4), ((HB.out.cell (World.block_lt_of_cell? w _ hw198_5)).trans hw198_5), ((HB.out.cell (World.block_lt_of_cell? w _ hw198_6)).trans hw198_6), ((HB.out.cell (World.block_lt_of_cell? w _ hw198_7)).trans hw198_7), ((HB.out.cell (World.block_lt_of_cell? w _ hw198_8)).trans hw198_8), ((HB.out.cell (World.block_lt_of_cell? w _ hw198_9)).trans hw198_9), ((HB.out.cell (World.block_lt_of_cell? w _ hw198_10)).trans hw198_10), ((HB.out.cell (World.block_lt_of_cell? w _ hw198_11)).trans hw198_11), ((HB.out.cell (World.block_lt_of_cell? w _ hw198_12)).trans hw198_12), ((HB.out.cell (World.block_lt_of_cell? w _ hw198_13)).trans hw198_13), ((HB.out.cell (World.block_lt_of_cell? w _ hw198_14)).trans hw198_14), ((HB.out.cell (World.block_lt_of_cell? w _ hw198_15)).trans hw198_15)⟩ (fun hHeld => ?_)
                                              clear hK K
                                              refine norm_ (a' := ?_) ?_ ?_
                                              rotate_left
                                              · show Act.put _ (some 75) _ = _
                                                simp only [Act.put, List.setIfInBounds_toArray, List.set_cons_zero, List.set_cons_succ, i64_w, i32_w]
                                                rfl
                                              refine pure_ (i := 12) (N := some 76) (v := ?_) (a' := ?_) #[true, true, true, true, true, true, true, true, true, true, true, true, true, false, false, false, false, false, false, false, false] rfl rfl (any_of HT_.out (by kernel_rfl)) (fun _ _ _ h => h) (Or.inl ⟨by rfl, ?_⟩) ?_ ?_
                                              rotate_left
                                              · intro w'
                                                go_simp
                                                with_reducible rfl
                                              rotate_left
                                              · simp only [Act.put, List.setIfInBounds_toArray, List.set_cons_zero, List.set_cons_succ, i64_w, i32_w]
                                                rfl
                                              refine pure_ (i := 13) (N := some 77) (v := ?_) (a' := ?_) #[true, true, true, true, true, true, true, true, true, true, true, true, true, true, false, false, false, false, false, false, false] rfl rfl (any_of HT_.out (by kernel_rfl)) (fun _ _ _ h => h) (Or.inl ⟨by rfl, ?_⟩) ?_ ?_
                                              rotate_left
                                              · intro w'
                                                go_simp
                                                with_reducible rfl
                                              rotate_left
                                              · simp only [Act.put, List.setIfInBounds_toArray, List.set_cons_zero, List.set_cons_succ, i64_w, i32_w]
                                                rfl
                                              refine pure_ (i := 14) (N := some 78) (v := ?_) (a' := ?_) #[true, true, true, true, true, true, true, true, true, true, true, true, true, true, true, false, false, false, false, false, false] rfl rfl (any_of HT_.out (by kernel_rfl)) (fun _ _ _ h => h) (Or.inl ⟨by rfl, ?_⟩) ?_ ?_
                                              rotate_left
                                              · intro w'
                                                go_simp
                                                with_reducible rfl
                                              rotate_left
                                              · simp only [Act.put, List.setIfInBounds_toArray, List.set_cons_zero, List.set_cons_succ, i64_w, i32_w]
                                                rfl
                                              refine pure_ (i := 15) (N := some 79) (v := ?_) (a' := ?_) #[true, true, true, true, true, true, true, true, true, true, true, true, true, true, true, true, false, false, false, false, false] rfl rfl (any_of HT_.out (by kernel_rfl)) (fun _ _ _ h => h) (Or.inl ⟨by rfl, ?_⟩) ?_ ?_
                                              rotate_left
                                              · intro w'
                                                go_simp
                                                with_reducible rfl
                                              rotate_left
                                              · simp only [Act.put, List.setIfInBounds_toArray, List.set_cons_zero, List.set_cons_succ, i64_w, i32_w]
                                                rfl
                                              refine pure_ (i := 16) (N := some 80) (v := ?_) (a' := ?_) #[true, true, true, true, true, true, true, true, true, true, true, true, true, true, true, true, true, false, false, false, false] rfl rfl (any_of HT_.out (by kernel_rfl)) (fun _ _ _ h => h) (Or.inl ⟨by rfl, ?_⟩) ?_ ?_
                                              rotate_left
                                              · intro w'
                                                go_simp
                                                with_reducible rfl
                                              rotate_left
                                              · simp only [Act.put, List.setIfInBounds_toArray, List.set_cons_zero, List.set_cons_succ, i64_w, i32_w]
                                                rfl
                                              refine pure_ (i := 17) (N := some 81) (v := ?_) (a' := ?_) #[true, true, true, true, true, true, true, true, true, true, true, true, true, true, true, true, true, true, false, false, false] rfl rfl (any_of HT_.out (by kernel_rfl)) (fun _ _ _ h => h) (Or.inl ⟨by rfl, ?_⟩) ?_ ?_
                                              rotate_left
                                              · intro w'
                                                go_simp
                                                with_reducible rfl
                                              rotate_left
                                              · simp only [Act.put, List.setIfInBounds_toArray, List.set_cons_zero, List.set_cons_succ, i64_w, i32_w]
                                                rfl
                                              refine pure_ (i := 18) (N := some 82) (v := ?_) (a' := ?_) #[true, true, true, true, true, true, true, true, true, true, true, true, true, true, true, true, true, true, true, false, false] rfl rfl (any_of HT_.out (by kernel_rfl)) (fun _ _ _ h => h) (Or.inl ⟨by rfl, ?_⟩) ?_ ?_
                                              rotate_left
                                              · intro w'
                                                go_simp
                                                with_reducible rfl
                                              rotate_left
                                              · simp only [Act.put, List.setIfInBounds_toArray, List.set_cons_zero, List.set_cons_succ, i64_w, i32_w]
                                                rfl
                                              refine pure_ (i := 19) (N := some 83) (v := ?_) (a' := ?_) #[true, true, true, true, true, true, true, true, true, true, true, true, true, true, true, true, true, true, true, true, false] rfl rfl (any_of HT_.out (by kernel_rfl)) (fun _ _ _ h => h) (Or.inl ⟨by rfl, ?_⟩) ?_ ?_
                                              rotate_left
                                              · intro w'
                                                go_simp
                                                with_reducible rfl
                                              rotate_left
                                              · simp only [Act.put, List.setIfInBounds_toArray, List.set_cons_zero, List.set_cons_succ, i64_w, i32_w]
                                                rfl
                                              refine pure_ (i := 20) (N := some 84) (v := ?_) (a' := ?_) #[true, true, true, true, true, true, true, true, true, true, true, true, true, true, true, true, true, true, true, true, true] rfl rfl (any_of HT_.out (by kernel_rfl)) (fun _ _ _ h => h) (Or.inl ⟨by rfl, ?_⟩) ?_ ?_
                                              rotate_left
                                              · intro w'
                                                go_simp
                                                with_reducible rfl
                                              rotate_left
                                              · simp only [Act.put, List.setIfInBounds_toArray, List.set_cons_zero, List.set_cons_succ, i64_w, i32_w]
                                                rfl
                                              refine done_ (done_of HT_.out (by kernel_rfl)) ?_
                                              try go_wp2
                                              go_roundg k4
                                              case measure => have := HK1.out; have := HK2.out; have := HJ10.out; have := HK4.out; omega
                                              case rel => exact ⟨(wrap64 (x8_4 + 1)), (by first | rfl | (simp; done) | (simp [*]; done)), H', ⟨by have := HK1.out; have := HK2.out; have := HJ10.out; have := HK4.out; omega⟩, ⟨by repeat (first | (with_reducible first | exact HB.out | apply below_alloc | apply pw_below_drewN | apply below_drew1) | exact HB.out)⟩⟩
                                    · as_aux_lemma =>
                                        replace c22 := Bool.eq_false_iff.mpr c22
                                        subst c22
                                        have H1 : (burnbagref16_May.l2 k4 l0 l1 x6_2 t194 (wrap64 (x8_4 + 1))) = some r := by rw [if_neg (show ¬ (false = true) by decide)] at H; exact H
                                        clear H
                                        have H := H1
                                        clear H1
                                        have H' := Aside0.mk H
                                        clear H
                                        try go_wp2
                                        have n0_ := Aside0.mk (below_drew1 HB.out)
                                        clear HB
                                        have HB := n0_
                                        clear n0_
                                        have p196 : 0 ≤ (x6_2 : Int) := of_decide_eq_true (by first | (with_reducible assumption) | assumption)
                                        have q196 : x6_2 < (l0.length : Int) := of_decide_eq_true (by first | (with_reducible assumption) | assumption)
                                        obtain ⟨ad196, e196, hx196_0, hx196_1, hx196_2, hx196_3, hx196_4, hx196_5, hx196_6, hx196_7, hx196_8, hx196_9, hx196_10, hx196_11, hx196_12, hx196_13, hx196_14, hx196_15⟩ := at_T38 HR0.out x6_2 p196 q196
                                        have hw196_15 := hx196_15
                                        have hw196_14 := hx196_14
                                        have hw196_13 := hx196_13
                                        have hw196_12 := hx196_12
                                        have hw196_11 := hx196_11
                                        have hw196_10 := hx196_10
                                        have hw196_9 := hx196_9
                                        have hw196_8 := hx196_8
                                        have hw196_7 := hx196_7
                                        have hw196_6 := hx196_6
                                        have hw196_5 := hx196_5
                                        have hw196_4 := hx196_4
                                        have hw196_3 := hx196_3
                                        have hw196_2 := hx196_2
                                        have hw196_1 := hx196_1
                                        have hw196_0 := hx196_0
                                        cases e196
                                        replace hx196_0 := (HB.out.cell (World.block_lt_of_cell? w _ hx196_0)).trans hx196_0
                                        replace hx196_1 := (HB.out.cell (World.block_lt_of_cell? w _ hx196_1)).trans hx196_1
                                        replace hx196_2 := (HB.out.cell (World.block_lt_of_cell? w _ hx196_2)).trans hx196_2
                                        replace hx196_3 := (HB.out.cell (World.block_lt_of_cell? w _ hx196_3)).trans hx196_3
                                        replace hx196_4 := (HB.out.cell (World.block_lt_of_cell? w _ hx196_4)).trans hx196_4
                                        replace hx196_5 := (HB.out.cell (World.block_lt_of_cell? w _ hx196_5)).trans hx196_5
                                        replace hx196_6 := (HB.out.cell (World.block_lt_of_cell? w _ hx196_6)).trans hx196_6
                                        replace hx196_7 := (HB.out.cell (World.block_lt_of_cell? w _ hx196_7)).trans hx196_7
                                        replace hx196_8 := (HB.out.cell (World.block_lt_of_cell? w _ hx196_8)).trans hx196_8
                                        replace hx196_9 := (HB.out.cell (World.block_lt_of_cell? w _ hx196_9)).trans hx196_9
                                        replace hx196_10 := (HB.out.cell (World.block_lt_of_cell? w _ hx196_10)).trans hx196_10
                                        replace hx196_11 := (HB.out.cell (World.block_lt_of_cell? w _ hx196_11)).trans hx196_11
                                        replace hx196_12 := (HB.out.cell (World.block_lt_of_cell? w _ hx196_12)).trans hx196_12
                                        replace hx196_13 := (HB.out.cell (World.block_lt_of_cell? w _ hx196_13)).trans hx196_13
                                        replace hx196_14 := (HB.out.cell (World.block_lt_of_cell? w _ hx196_14)).trans hx196_14
                                        replace hx196_15 := (HB.out.cell (World.block_lt_of_cell? w _ hx196_15)).trans hx196_15
                                        replace p196 := eq_true p196
                                        replace q196 := eq_true q196
                                        have p197 : 0 ≤ (x8_4 : Int) := of_decide_eq_true (by first | (with_reducible assumption) | assumption)
                                        have q197 : x8_4 < (l1.length : Int) := of_decide_eq_true (by first | (with_reducible assumption) | assumption)
                                        obtain ⟨ad197, e197, hx197_0⟩ := Kd.at_int HR1.out x8_4 p197 q197
                                        have hw197_0 := hx197_0
                                        cases e197
                                        replace hx197_0 := (HB.out.cell (World.block_lt_of_cell? w _ hx197_0)).trans hx197_0
                                        replace p197 := eq_true p197
                                        replace q197 := eq_true q197
                                        have p198 : 0 ≤ ((rd l1 x8_4) : Int) := of_decide_eq_true (by first | (with_reducible assumption) | assumption)
                                        have q198 : (rd l1 x8_4) < (l0.length : Int) := of_decide_eq_true (by first | (with_reducible assumption) | assumption)
                                        obtain ⟨ad198, e198, hx198_0, hx198_1, hx198_2, hx198_3, hx198_4, hx198_5, hx198_6, hx198_7, hx198_8, hx198_9, hx198_10, hx198_11, hx198_12, hx198_13, hx198_14, hx198_15⟩ := at_T38 HR0.out (rd l1 x8_4) p198 q198
                                        have hw198_15 := hx198_15
                                        have hw198_14 := hx198_14
                                        have hw198_13 := hx198_13
                                        have hw198_12 := hx198_12
                                        have hw198_11 := hx198_11
                                        have hw198_10 := hx198_10
                                        have hw198_9 := hx198_9
                                        have hw198_8 := hx198_8
                                        have hw198_7 := hx198_7
                                        have hw198_6 := hx198_6
                                        have hw198_5 := hx198_5
                                        have hw198_4 := hx198_4
                                        have hw198_3 := hx198_3
                                        have hw198_2 := hx198_2
                                        have hw198_1 := hx198_1
                                        have hw198_0 := hx198_0
                                        obtain rfl : ad196 = ad198 := (by injection e198)
                                        replace hx198_0 := (HB.out.cell (World.block_lt_of_cell? w _ hx198_0)).trans hx198_0
                                        replace hx198_1 := (HB.out.cell (World.block_lt_of_cell? w _ hx198_1)).trans hx198_1
                                        replace hx198_2 := (HB.out.cell (World.block_lt_of_cell? w _ hx198_2)).trans hx198_2
                                        replace hx198_3 := (HB.out.cell (World.block_lt_of_cell? w _ hx198_3)).trans hx198_3
                                        replace hx198_4 := (HB.out.cell (World.block_lt_of_cell? w _ hx198_4)).trans hx198_4
                                        replace hx198_5 := (HB.out.cell (World.block_lt_of_cell? w _ hx198_5)).trans hx198_5
                                        replace hx198_6 := (HB.out.cell (World.block_lt_of_cell? w _ hx198_6)).trans hx198_6
                                        replace hx198_7 := (HB.out.cell (World.block_lt_of_cell? w _ hx198_7)).trans hx198_7
                                        replace hx198_8 := (HB.out.cell (World.block_lt_of_cell? w _ hx198_8)).trans hx198_8
                                        replace hx198_9 := (HB.out.cell (World.block_lt_of_cell? w _ hx198_9)).trans hx198_9
                                        replace hx198_10 := (HB.out.cell (World.block_lt_of_cell? w _ hx198_10)).trans hx198_10
                                        replace hx198_11 := (HB.out.cell (World.block_lt_of_cell? w _ hx198_11)).trans hx198_11
                                        replace hx198_12 := (HB.out.cell (World.block_lt_of_cell? w _ hx198_12)).trans hx198_12
                                        replace hx198_13 := (HB.out.cell (World.block_lt_of_cell? w _ hx198_13)).trans hx198_13
                                        replace hx198_14 := (HB.out.cell (World.block_lt_of_cell? w _ hx198_14)).trans hx198_14
                                        replace hx198_15 := (HB.out.cell (World.block_lt_of_cell? w _ hx198_15)).trans hx198_15
                                        replace p198 := eq_true p198
                                        replace q198 := eq_true q198
                                        refine start_ (n := 21) (S := fun w' => w'.cell? (ad196.add ((x6_2).toNat * 16)) = some (.int .i64 ((rd_T38 l0 x6_2).f0)) ∧ w'.cell? ⟨(ad196.add ((x6_2).toNat * 16)).block, (ad196.add ((x6_2).toNat * 16)).off + 1, none⟩ = some (.int .i64 ((rd_T38 l0 x6_2).f1.f0)) ∧ w'.cell? ⟨(ad196.add ((x6_2).toNat * 16)).block, (ad196.add ((x6_2).toNat * 16)).off + 2, none⟩ = some (.int .i64 ((rd_T38 l0 x6_2).f1.f1)) ∧ w'.cell? ⟨(ad196.add ((x6_2).toNat * 16)).block, (ad196.add ((x6_2).toNat * 16)).off + 3, none⟩ = some (.int .i64 ((rd_T38 l0 x6_2).f1.f2)) ∧ w'.cell? ⟨(ad196.add ((x6_2).toNat * 16)).block, (ad196.add ((x6_2).toNat * 16)).off + 4, none⟩ = some (.int .u64 ((rd_T38 l0 x6_2).f1.f3.f0)) ∧ w'.cell? ⟨(ad196.add ((x6_2).toNat * 16)).block, (ad196.add ((x6_2).toNat * 16)).off + 5, none⟩ = some (.int .u64 ((rd_T38 l0 x6_2).f1.f3.f1)) ∧ w'.cell? ⟨(ad196.add ((x6_2).toNat * 16)).block, (ad196.add ((x6_2).toNat * 16)).off + 6, none⟩ = some (.int .u64 ((rd_T38 l0 x6_2).f1.f4)) ∧ w'.cell? ⟨(ad196.add ((x6_2).toNat * 16)).block, (ad196.add ((x6_2).toNat * 16)).off + 7, none⟩ = some (.int .i64 ((rd_T38 l0 x6_2).f1.f5)) ∧ w'.cell? ⟨(ad196.add ((x6_2).toNat * 16)).block, (ad196.add ((x6_2).toNat * 16)).off + 8, none⟩ = some (.int .i64 ((rd_T38 l0 x6_2).f2.f0)) ∧ w'.cell? ⟨(ad196.add ((x6_2).toNat * 16)).block, (ad196.add ((x6_2).toNat * 16)).off + 9, none⟩ = some (.int .u64 ((rd_T38 l0 x6_2).f2.f1.f0)) ∧ w'.cell? ⟨(ad196.add ((x6_2).toNat * 16)).block, (ad196.add ((x6_2).toNat * 16)).off + 10, none⟩ = some (.int .u64 ((rd_T38 l0 x6_2).f2.f1.f1)) ∧ w'.cell? ⟨(ad196.add ((x6_2).toNat * 16)).block, (ad196.add ((x6_2).toNat * 16)).off + 11, none⟩ = some (.int .u64 ((rd_T38 l0 x6_2).f2.f2)) ∧ w'.cell? ⟨(ad196.add ((x6_2).toNat * 16)).block, (ad196.add ((x6_2).toNat * 16)).off + 12, none⟩ = some (.int .i64 ((rd_T38 l0 x6_2).f2.f3)) ∧ w'.cell? ⟨(ad196.add ((x6_2).toNat * 16)).block, (ad196.add ((x6_2).toNat * 16)).off + 13, none⟩ = some (.int .i64 ((rd_T38 l0 x6_2).f2.f4)) ∧ w'.cell? ⟨(ad196.add ((x6_2).toNat * 16)).block, (ad196.add ((x6_2).toNat * 16)).off + 14, none⟩ = some (.int .i64 ((rd_T38 l0 x6_2).f3)) ∧ w'.cell? ⟨(ad196.add ((x6_2).toNat * 16)).block, (ad196.add ((x6_2).toNat * 16)).off + 15, none⟩ = some (.int .i64 ((rd_T38 l0 x6_2).f4)) ∧ w'.cell? (ad197.add (x8_4).toNat) = some (.int .i64 (rd l1 x8_4)) ∧ w'.cell? (ad196.add (((rd l1 x8_4)).toNat * 16)) = some (.int .i64 ((rd_T38 l0 (rd l1 x8_4)).f0)) ∧ w'.cell? ⟨(ad196.add (((rd l1 x8_4)).toNat * 16)).block, (ad196.add (((rd l1 x8_4)).toNat * 16)).off + 1, none⟩ = some (.int .i64 ((rd_T38 l0 (rd l1 x8_4)).f1.f0)) ∧ w'.cell? ⟨(ad196.add (((rd l1 x8_4)).toNat * 16)).block, (ad196.add (((rd l1 x8_4)).toNat * 16)).off + 2, none⟩ = some (.int .i64 ((rd_T38 l0 (rd l1 x8_4)).f1.f1)) ∧ w'.cell? ⟨(ad196.add (((rd l1 x8_4)).toNat * 16)).block, (ad196.add (((rd l1 x8_4)).toNat * 16)).off + 3, none⟩ = some (.int .i64 ((rd_T38 l0 (rd l1 x8_4)).f1.f2)) ∧ w'.cell? ⟨(ad196.add (((rd l1 x8_4)).toNat * 16)).block, (ad196.add (((rd l1 x8_4)).toNat * 16)).off + 4, none⟩ = some (.int .u64 ((rd_T38 l0 (rd l1 x8_4)).f1.f3.f0)) ∧ w'.cell? ⟨(ad196.add (((rd l1 x8_4)).toNat * 16)).block, (ad196.add (((rd l1 x8_4)).toNat * 16)).off + 5, none⟩ = some (.int .u64 ((rd_T38 l0 (rd l1 x8_4)).f1.f3.f1)) ∧ w'.cell? ⟨(ad196.add (((rd l1 x8_4)).toNat * 16)).block, (ad196.add (((rd l1 x8_4)).toNat * 16)).off + 6, none⟩ = some (.int .u64 ((rd_T38 l0 (rd l1 x8_4)).f1.f4)) ∧ w'.cell? ⟨(ad196.add (((rd l1 x8_4)).toNat * 16)).block, (ad196.add (((rd l1 x8_4)).toNat * 16)).off + 7, none⟩ = some (.int .i64 ((rd_T38 l0 (rd l1 x8_4)).f1.f5)) ∧ w'.cell? ⟨(ad196.add (((rd l1 x8_4)).toNat * 16)).block, (ad196.add (((rd l1 x8_4)).toNat * 16)).off + 8, none⟩ = some (.int .i64 ((rd_T38 l0 (rd l1 x8_4)).f2.f0)) ∧ w'.cell? ⟨(ad196.add (((rd l1 x8_4)).toNat * 16)).block, (ad196.add (((rd l1 x8_4)).toNat * 16)).off + 9, none⟩ = some (.int .u64 ((rd_T38 l0 (rd l1 x8_4)).f2.f1.f0)) ∧ w'.cell? ⟨(ad196.add (((rd l1 x8_4)).toNat * 16)).block, (ad196.add (((rd l1 x8_4)).toNat * 16)).off + 10, none⟩ = some (.int .u64 ((rd_T38 l0 (rd l1 x8_4)).f2.f1.f1)) ∧ w'.cell? ⟨(ad196.add (((rd l1 x8_4)).toNat * 16)).block, (ad196.add (((rd l1 x8_4)).toNat * 16)).off + 11, none⟩ = some (.int .u64 ((rd_T38 l0 (rd l1 x8_4)).f2.f2)) ∧ w'.cell? ⟨(ad196.add (((rd l1 x8_4)).toNat * 16)).block, (ad196.add (((rd l1 x8_4)).toNat * 16)).off + 12, none⟩ = some (.int .i64 ((rd_T38 l0 (rd l1 x8_4)).f2.f3)) ∧ w'.cell? ⟨(ad196.add (((rd l1 x8_4)).toNat * 16)).block, (ad196.add (((rd l1 x8_4)).toNat * 16)).off + 13, none⟩ = some (.int .i64 ((rd_T38 l0 (rd l1 x8_4)).f2.f4)) ∧ w'.cell? ⟨(ad196.add (((rd l1 x8_4)).toNat * 16)).block, (ad196.add (((rd l1 x8_4)).toNat * 16)).off + 14, none⟩ = some (.int .i64 ((rd_T38 l0 (rd l1 x8_4)).f3)) ∧ w'.cell? ⟨(ad196.add (((rd l1 x8_4)).toNat * 16)).block, (ad196.add (((rd l1 x8_4)).toNat * 16)).off + 15, none⟩ = some (.int .i64 ((rd_T38 l0 (rd l1 x8_4)).f4))) (ds := []) #[false, false, false, false, false, false, false, false, false, false, false, false, false, false, false, false, false, false, false, false, false] (by kernel_rfl) rfl rfl ⟨((HB.out.cell (World.block_lt_of_cell? w _ hw196_0)).trans hw196_0), ((HB.out.cell (World.block_lt_of_cell? w _ hw196_1)).trans hw196_1), ((HB.out.cell (World.block_lt_of_cell? w _ hw196_2)).trans hw196_2), ((HB.out.cell (World.block_lt_of_cell? w _ hw196_3)).trans hw196_3), ((HB.out.cell (World.block_lt_of_cell? w _ hw196_4)).trans hw196_4), ((HB.out.cell (World.block_lt_of_cell? w _ hw196_5)).trans hw196_5), ((HB.out.cell (World.block_lt_of_cell? w _ hw196_6)).trans hw196_6), ((HB.out.cell (World.block_lt_of_cell? w _ hw196_7)).trans hw196_7), ((HB.out.cell (World.block_lt_of_cell? w _ hw196_8)).trans hw196_8), ((HB.out.cell (World.block_lt_of_cell? w _ hw196_9)).trans hw196_9), ((HB.out.cell (World.block_lt_of_cell? w _ hw196_10)).trans hw196_10), ((HB.out.cell (World.block_lt_of_cell? w _ hw196_11)).trans hw196_11), ((HB.out.cell (World.block_lt_of_cell? w _ hw196_12)).trans hw196_12), ((HB.out.cell (World.block_lt_of_cell? w _ hw196_13)).trans hw196_13), ((HB.out.cell (World.block_lt_of_cell? w _ hw196_14)).trans hw196_14), ((HB.out.cell (World.block_lt_of_cell? w _ hw196_15)).trans hw196_15), ((HB.out.cell (World.block_lt_of_cell? w _ hw197_0)).trans hw197_0), ((HB.out.cell (World.block_lt_of_cell? w _ hw198_0)).trans hw198_0), ((HB.out.cell (World.block_lt_of_cell? w _ hw198_1)).trans hw198_1), ((HB.out.cell (World.block_lt_of_cell? w _ hw198_2)).trans hw198_2), ((HB.out.cell (World.block_lt_of_cell? w _ hw198_3)).trans hw198_3), ((HB.out.cell (World.block_lt_of_cell? w _ hw198_4)).trans hw198_4), ((HB.out.cell (World.block_lt_of_cell? w _ hw198_5)).trans hw198_5), ((HB.out.cell (World.block_lt_of_cell? w _ hw198_6)).trans hw198_6), ((HB.out.cell (World.block_lt_of_cell? w _ hw198_7)).trans hw198_7), ((HB.out.cell (World.block_lt_of_cell? w _ hw198_8)).trans hw198_8), ((HB.out.cell (World.block_lt_of_cell? w _ hw198_9)).trans hw198_9), ((HB.out.cell (World.block_lt_of_cell? w _ hw198_10)).trans hw198_10), ((HB.out.cell (World.block_lt_of_cell? w _ hw198_11)).trans hw198_11), ((HB.out.cell (World.block_lt_of_cell? w _ hw198_12)).trans hw198_12), ((HB.out.cell (World.block_lt_of_cell? w _ hw198_13)).trans hw198_13), ((HB.out.cell (World.block_lt_of_cell? w _ hw198_14)).trans hw198_14), ((HB.out.cell (World.block_lt_of_cell? w _ hw198_15)).trans hw198_15)⟩ (fun hHeld => ?_); refine with_tabW burnbagref16_May.tab15 burnbagref16_May.bits15 (fun HT_ HW_ => ?_)
                                        generalize wr.drew = w31 at HB hx196_0 hx196_1 hx196_10 hx196_11 hx196_12 hx196_13 hx196_14 hx196_15 hx196_2 hx196_3 hx196_4 hx196_5 hx196_6 hx196_7 hx196_8 hx196_9 hx197_0 hx198_0 hx198_1 hx198_10 hx198_11 hx198_12 hx198_13 hx198_14 hx198_15 hx198_2 hx198_3 hx198_4 hx198_5 hx198_6 hx198_7 hx198_8 hx198_9 hHeld ⊢
                                        refine pure_ (i := 0) (N := some 64) (v := ?_) (a' := ?_) #[true, false, false, false, false, false, false, false, false, false, false, false, false, false, false, false, false, false, false, false, false] rfl rfl (any_of HT_.out (by kernel_rfl)) (fun _ _ _ h => h) (Or.inl ⟨by rfl, ?_⟩) ?_ ?_
                                        rotate_left
                                        · as_aux_lemma =>
                                            intro w'
                                            go_simp
                                            with_reducible rfl
                                        rotate_left
                                        · as_aux_lemma =>
                                            simp only [Act.put, List.setIfInBounds_toArray, List.set_cons_zero, List.set_cons_succ, i64_w, i32_w]
                                            rfl
                                        refine pure_ (i := 1) (N := some 65) (v := ?_) (a' := ?_) #[true, true, false, false, false, false, false, false, false, false, false, false, false, false, false, false, false, false, false, false, false] rfl rfl (any_of HT_.out (by kernel_rfl)) (fun _ _ _ h => h) (Or.inl ⟨by rfl, ?_⟩) ?_ ?_
                                        rotate_left
                                        · as_aux_lemma =>
                                            intro w'
                                            go_simp
                                            with_reducible rfl
                                        rotate_left
                                        · as_aux_lemma =>
                                            simp only [Act.put, List.setIfInBounds_toArray, List.set_cons_zero, List.set_cons_succ, i64_w, i32_w]
                                            rfl
                                        refine pure_ (i := 2) (N := some 66) (v := ?_) (a' := ?_) #[true, true, true, false, false, false, false, false, false, false, false, false, false, false, false, false, false, false, false, false, false] rfl rfl (any_of HT_.out (by kernel_rfl)) (fun _ _ _ h => h) (Or.inl ⟨by rfl, ?_⟩) ?_ ?_
                                        rotate_left
                                        · as_aux_lemma =>
                                            intro w'
                                            go_simp
                                            with_reducible rfl
                                        rotate_left
                                        · as_aux_lemma =>
                                            simp only [Act.put, List.setIfInBounds_toArray, List.set_cons_zero, List.set_cons_succ, i64_w, i32_w]
                                            rfl
                                        refine pure_ (i := 4) (N := some 68) (v := ?_) (a' := ?_) #[true, true, true, false, true, false, false, false, false, false, false, false, false, false, false, false, false, false, false, false, false] rfl rfl (any_of HT_.out (by kernel_rfl)) (fun _ _ _ h => h) (Or.inl ⟨by rfl, ?_⟩) ?_ ?_
                                        rotate_left
                                        · as_aux_lemma =>
                                            intro w'
                                            go_simp
                                            with_reducible rfl
                                        rotate_left
                                        · as_aux_lemma =>
                                            simp only [Act.put, List.setIfInBounds_toArray, List.set_cons_zero, List.set_cons_succ, i64_w, i32_w]
                                            rfl
                                        refine pure_ (i := 5) (N := some 69) (v := ?_) (a' := ?_) #[true, true, true, false, true, true, false, false, false, false, false, false, false, false, false, false, false, false, false, false, false] rfl rfl (any_of HT_.out (by kernel_rfl)) (fun _ _ _ h => h) (Or.inl ⟨by rfl, ?_⟩) ?_ ?_
                                        rotate_left
                                        · as_aux_lemma =>
                                            intro w'
                                            go_simp
                                            with_reducible rfl
                                        rotate_left
                                        · as_aux_lemma =>
                                            simp only [Act.put, List.setIfInBounds_toArray, List.set_cons_zero, List.set_cons_succ, i64_w, i32_w]
                                            rfl
                                        refine pure_ (i := 6) (N := some 70) (v := ?_) (a' := ?_) #[true, true, true, false, true, true, true, false, false, false, false, false, false, false, false, false, false, false, false, false, false] rfl rfl (any_of HT_.out (by kernel_rfl)) (fun _ _ _ h => h) (Or.inl ⟨by rfl, ?_⟩) ?_ ?_
                                        rotate_left
                                        · as_aux_lemma =>
                                            intro w'
                                            go_simp
                                            with_reducible rfl
                                        rotate_left
                                        · as_aux_lemma =>
                                            simp only [Act.put, List.setIfInBounds_toArray, List.set_cons_zero, List.set_cons_succ, i64_w, i32_w]
                                            rfl
                                        refine pure_ (i := 7) (N := some 71) (v := ?_) (a' := ?_) #[true, true, true, false, true, true, true, true, false, false, false, false, false, false, false, false, false, false, false, false, false] rfl rfl (any_of HT_.out (by kernel_rfl)) (fun _ _ _ h => h) (Or.inl ⟨by rfl, ?_⟩) ?_ ?_
                                        rotate_left
                                        · as_aux_lemma =>
                                            intro w'
                                            go_simp
                                            with_reducible rfl
                                        rotate_left
                                        · as_aux_lemma =>
                                            simp only [Act.put, List.setIfInBounds_toArray, List.set_cons_zero, List.set_cons_succ, i64_w, i32_w]
                                            rfl
                                        refine take_ (i := 3) (N := some 67) (v := ?_) (a' := ?_) #[true, true, true, true, true, true, true, true, false, false, false, false, false, false, false, false, false, false, false, false, false] rfl rfl (take_ofW HT_.out HW_.out (by kernel_rfl)) (fun _ _ _ h => h) (Or.inl ⟨by rfl, ?_⟩) hHeld ?_ ?_
                                        rotate_left
                                        · as_aux_lemma =>
                                            rintro w' ⟨s0, s1, s2, s3, s4, s5, s6, s7, s8, s9, s10, s11, s12, s13, s14, s15, s16, s17, s18, s19, s20, s21, s22, s23, s24, s25, s26, s27, s28, s29, s30, s31, s32⟩
                                            go_simp
                                            with_reducible rfl
                                        rotate_left
                                        · as_aux_lemma =>
                                            simp only [Act.put, List.setIfInBounds_toArray, List.set_cons_zero, List.set_cons_succ, i64_w, i32_w]
                                            rfl
                                        refine take_ (i := 8) (N := some 72) (v := ?_) (a' := ?_) #[true, true, true, true, true, true, true, true, true, false, false, false, false, false, false, false, false, false, false, false, false] rfl rfl (take_ofW HT_.out HW_.out (by kernel_rfl)) (fun _ _ _ h => h) (Or.inl ⟨by rfl, ?_⟩) hHeld ?_ ?_
                                        rotate_left
                                        · as_aux_lemma =>
                                            rintro w' ⟨s0, s1, s2, s3, s4, s5, s6, s7, s8, s9, s10, s11, s12, s13, s14, s15, s16, s17, s18, s19, s20, s21, s22, s23, s24, s25, s26, s27, s28, s29, s30, s31, s32⟩
                                            go_simp
                                            with_reducible rfl
                                        rotate_left
                                        · as_aux_lemma =>
                                            simp only [Act.put, List.setIfInBounds_toArray, List.set_cons_zero, List.set_cons_succ, i64_w, i32_w]
                                            rfl
                                        refine pure_ (i := 9) (N := some 73) (v := ?_) (a' := ?_) #[true, true, true, true, true, true, true, true, true, true, false, false, false, false, false, false, false, false, false, false, false] rfl rfl (any_of HT_.out (by kernel_rfl)) (fun _ _ _ h => h) (Or.inl ⟨by rfl, ?_⟩) ?_ ?_
                                        rotate_left
                                        · as_aux_lemma =>
                                            intro w'
                                            go_simp
                                            with_reducible rfl
                                        rotate_left
                                        · as_aux_lemma =>
                                            simp only [Act.put, List.setIfInBounds_toArray, List.set_cons_zero, List.set_cons_succ, i64_w, i32_w]
                                            rfl
                                        refine take_ (i := 10) (N := some 74) (v := ?_) (a' := ?_) #[true, true, true, true, true, true, true, true, true, true, true, false, false, false, false, false, false, false, false, false, false] rfl rfl (take_ofW HT_.out HW_.out (by kernel_rfl)) (fun _ _ _ h => h) (Or.inl ⟨by rfl, ?_⟩) hHeld ?_ ?_
                                        rotate_left
                                        · as_aux_lemma =>
                                            rintro w' ⟨s0, s1, s2, s3, s4, s5, s6, s7, s8, s9, s10, s11, s12, s13, s14, s15, s16, s17, s18, s19, s20, s21, s22, s23, s24, s25, s26, s27, s28, s29, s30, s31, s32⟩
                                            go_simp
                                            with_reducible rfl
                                        rotate_left
                                        · as_aux_lemma =>
                                            simp only [Act.put, List.setIfInBounds_toArray, List.set_cons_zero, List.set_cons_succ, i64_w, i32_w]
                                            rfl
                                        refine one_ (i := 11) (N := some 75) #[true, true, true, true, true, true, true, true, true, true, true, true, false, false, false, false, false, false, false, false, false] rfl rfl (one_of HT_.out (by kernel_rfl)) (by decide) (fun K hK => ?_)
                                        refine goes_ Tryz.func23 (by kernel_rfl) rfl #[.agg #[.int .i64 ((rd_T38 l0 x6_2).f0), .int .i64 ((rd_T38 l0 x6_2).f1.f0), .int .i64 ((rd_T38 l0 x6_2).f1.f1), .int .i64 ((rd_T38 l0 x6_2).f1.f2), .int .u64 ((rd_T38 l0 x6_2).f1.f3.f0), .int .u64 ((rd_T38 l0 x6_2).f1.f3.f1), .int .u64 ((rd_T38 l0 x6_2).f1.f4), .int .i64 ((rd_T38 l0 x6_2).f1.f5), .int .i64 ((rd_T38 l0 x6_2).f2.f0), .int .u64 ((rd_T38 l0 x6_2).f2.f1.f0), .int .u64 ((rd_T38 l0 x6_2).f2.f1.f1), .int .u64 ((rd_T38 l0 x6_2).f2.f2), .int .i64 ((rd_T38 l0 x6_2).f2.f3), .int .i64 ((rd_T38 l0 x6_2).f2.f4), .int .i64 ((rd_T38 l0 x6_2).f3), .int .i64 ((rd_T38 l0 x6_2).f4)], .agg #[.int .i64 ((rd_T38 l0 (rd l1 x8_4)).f0), .int .i64 ((rd_T38 l0 (rd l1 x8_4)).f1.f0), .int .i64 ((rd_T38 l0 (rd l1 x8_4)).f1.f1), .int .i64 ((rd_T38 l0 (rd l1 x8_4)).f1.f2), .int .u64 ((rd_T38 l0 (rd l1 x8_4)).f1.f3.f0), .int .u64 ((rd_T38 l0 (rd l1 x8_4)).f1.f3.f1), .int .u64 ((rd_T38 l0 (rd l1 x8_4)).f1.f4), .int .i64 ((rd_T38 l0 (rd l1 x8_4)).f1.f5), .int .i64 ((rd_T38 l0 (rd l1 x8_4)).f2.f0), .int .u64 ((rd_T38 l0 (rd l1 x8_4)).f2.f1.f0), .int .u64 ((rd_T38 l0 (rd l1 x8_4)).f2.f1.f1), .int .u64 ((rd_T38 l0 (rd l1 x8_4)).f2.f2), .int .i64 ((rd_T38 l0 (rd l1 x8_4)).f2.f3), .int .i64 ((rd_T38 l0 (rd l1 x8_4)).f2.f4), .int .i64 ((rd_T38 l0 (rd l1 x8_4)).f3), .int .i64 ((rd_T38 l0 (rd l1 x8_4)).f4)]] (by rfl) rfl rfl (by (try simp only [List.map_toArray, List.map_cons, List.map_nil]); first | done | rfl | (simp only [List.length_drop, List.length_take]; rfl)) ?_
                                        with_reducible refine (burnbagref14_Ahead.calls ((rd_T38 l0 x6_2).f0) ((rd_T38 l0 x6_2).f1.f0) ((rd_T38 l0 x6_2).f1.f1) ((rd_T38 l0 x6_2).f1.f2) ((rd_T38 l0 x6_2).f1.f3.f0) ((rd_T38 l0 x6_2).f1.f3.f1) ((rd_T38 l0 x6_2).f1.f4) ((rd_T38 l0 x6_2).f1.f5) ((rd_T38 l0 x6_2).f2.f0) ((rd_T38 l0 x6_2).f2.f1.f0) ((rd_T38 l0 x6_2).f2.f1.f1) ((rd_T38 l0 x6_2).f2.f2) ((rd_T38 l0 x6_2).f2.f3) ((rd_T38 l0 x6_2).f2.f4) ((rd_T38 l0 x6_2).f3) ((rd_T38 l0 x6_2).f4) ((rd_T38 l0 (rd l1 x8_4)).f0) ((rd_T38 l0 (rd l1 x8_4)).f1.f0) ((rd_T38 l0 (rd l1 x8_4)).f1.f1) ((rd_T38 l0 (rd l1 x8_4)).f1.f2) ((rd_T38 l0 (rd l1 x8_4)).f1.f3.f0) ((rd_T38 l0 (rd l1 x8_4)).f1.f3.f1) ((rd_T38 l0 (rd l1 x8_4)).f1.f4) ((rd_T38 l0 (rd l1 x8_4)).f1.f5) ((rd_T38 l0 (rd l1 x8_4)).f2.f0) ((rd_T38 l0 (rd l1 x8_4)).f2.f1.f0) ((rd_T38 l0 (rd l1 x8_4)).f2.f1.f1) ((rd_T38 l0 (rd l1 x8_4)).f2.f2) ((rd_T38 l0 (rd l1 x8_4)).f2.f3) ((rd_T38 l0 (rd l1 x8_4)).f2.f4) ((rd_T38 l0 (rd l1 x8_4)).f3) ((rd_T38 l0 (rd l1 x8_4)).f4) false _ A21.out).mono ?_
                                        rintro e w32 ⟨rfl, hb⟩
                                        refine ⟨_, rfl, ?_⟩
                                        have n0_ := Aside0.mk (below_step (by repeat (first | (with_reducible first | exact HB.out | apply below_alloc | apply pw_below_drewN | apply below_drew1) | exact HB.out)) hb)
                                        clear HB
                                        have HB := n0_
                                        clear n0_
                                        (try clear hb)
                                        (try clear hb2)
                                        (try clear hk)
                                        (try clear hi)
                                        refine hK.out _ _ ⟨((HB.out.cell (World.block_lt_of_cell? w _ hw196_0)).trans hw196_0), ((HB.out.cell (World.block_lt_of_cell? w _ hw196_1)).trans hw196_1), ((HB.out.cell (World.block_lt_of_cell? w _ hw196_2)).trans hw196_2), ((HB.out.cell (World.block_lt_of_cell? w _ hw196_3)).trans hw196_3), ((HB.out.cell (World.block_lt_of_cell? w _ hw196_4)).trans hw196_4), ((HB.out.cell (World.block_lt_of_cell? w _ hw196_5)).trans hw196_5), ((HB.out.cell (World.block_lt_of_cell? w _ hw196_6)).trans hw196_6), ((HB.out.cell (World.block_lt_of_cell? w _ hw196_7)).trans hw196_7), ((HB.out.cell (World.block_lt_of_cell? w _ hw196_8)).trans hw196_8), ((HB.out.cell (World.block_lt_of_cell? w _ hw196_9)).trans hw196_9), ((HB.out.cell (World.block_lt_of_cell? w _ hw196_10)).trans hw196_10), ((HB.out.cell (World.block_lt_of_cell? w _ hw196_11)).trans hw196_11), ((HB.out.cell (World.block_lt_of_cell? w _ hw196_12)).trans hw196_12), ((HB.out.cell (World.block_lt_of_cell? w _ hw196_13)).trans hw196_13), ((HB.out.cell (World.block_lt_of_cell? w _ hw196_14)).trans hw196_14), ((HB.out.cell (World.block_lt_of_cell? w _ hw196_15)).trans hw196_15), ((HB.out.cell (World.block_lt_of_cell? w _ hw197_0)).trans hw197_0), ((HB.out.cell (World.block_lt_of_cell? w _ hw198_0)).trans hw198_0), ((HB.out.cell (World.block_lt_of_cell? w _ hw198_1)).trans hw198_1), ((HB.out.cell (World.block_lt_of_cell? w _ hw198_2)).trans hw198_2), ((HB.out.cell (World.block_lt_of_cell? w _ hw198_3)).trans hw198_3), ((HB.out.cell (World.block_lt_of_cell? w _ hw198_4)).trans hw198_4), ((HB.out.cell (World.block_lt_of_cell? w _ hw198_5)).trans hw198_5), ((HB.out.cell (World.block_lt_of_cell? w _ hw198_6)).trans hw198_6), ((HB.out.cell (World.block_lt_of_cell? w _ hw198_7)).trans hw198_7), ((HB.out.cell (World.block_lt_of_cell? w _ hw198_8)).trans hw198_8), ((HB.out.cell (World.block_lt_of_cell? w _ hw198_9)).trans hw198_9), ((HB.out.cell (World.block_lt_of_cell? w _ hw198_10)).trans hw198_10), ((HB.out.cell (World.block_lt_of_cell? w _ hw198_11)).trans hw198_11), ((HB.out.cell (World.block_lt_of_cell? w _ hw198_12)).trans hw198_12), ((HB.out.cell (World.block_lt_of_cell? w _ hw198_13)).trans hw198_13), ((HB.out.cell (World.block_lt_of_cell? w _ hw198_14)).trans hw198_14), ((HB.out.cell (World.block_lt_of_cell? w _ hw198_15)).trans hw198_15)⟩ (fun hHeld => ?_)
                                        clear hK K
                                        refine norm_ (a' := ?_) ?_ ?_
                                        rotate_left
                                        · as_aux_lemma =>
                                            show Act.put _ (some 75) _ = _
                                            simp only [Act.put, List.setIfInBounds_toArray, List.set_cons_zero, List.set_cons_succ, i64_w, i32_w]
                                            rfl
                                        refine pure_ (i := 12) (N := some 76) (v := ?_) (a' := ?_) #[true, true, true, true, true, true, true, true, true, true, true, true, true, false, false, false, false, false, false, false, false] rfl rfl (any_of HT_.out (by kernel_rfl)) (fun _ _ _ h => h) (Or.inl ⟨by rfl, ?_⟩) ?_ ?_
                                        rotate_left
                                        · as_aux_lemma =>
                                            intro w'
                                            go_simp
                                            with_reducible rfl
                                        rotate_left
                                        · as_aux_lemma =>
                                            simp only [Act.put, List.setIfInBounds_toArray, List.set_cons_zero, List.set_cons_succ, i64_w, i32_w]
                                            rfl
                                        refine pure_ (i := 13) (N := some 77) (v := undef) (a' := ?_) #[true, true, true, true, true, true, true, true, true, true, true, true, true, true, false, false, false, false, false, false, false] rfl rfl (any_of HT_.out (by kernel_rfl)) (fun _ _ _ h => h) (Or.inr ⟨by rfl, rfl⟩) ?_ ?_
                                        rotate_left
                                        · as_aux_lemma =>
                                            simp only [Act.put, List.setIfInBounds_toArray, List.set_cons_zero, List.set_cons_succ, i64_w, i32_w]
                                            rfl
                                        refine pure_ (i := 14) (N := some 78) (v := undef) (a' := ?_) #[true, true, true, true, true, true, true, true, true, true, true, true, true, true, true, false, false, false, false, false, false] rfl rfl (any_of HT_.out (by kernel_rfl)) (fun _ _ _ h => h) (Or.inr ⟨by rfl, rfl⟩) ?_ ?_
                                        rotate_left
                                        · as_aux_lemma =>
                                            simp only [Act.put, List.setIfInBounds_toArray, List.set_cons_zero, List.set_cons_succ, i64_w, i32_w]
                                            rfl
                                        refine pure_ (i := 15) (N := some 79) (v := undef) (a' := ?_) #[true, true, true, true, true, true, true, true, true, true, true, true, true, true, true, true, false, false, false, false, false] rfl rfl (any_of HT_.out (by kernel_rfl)) (fun _ _ _ h => h) (Or.inr ⟨by rfl, rfl⟩) ?_ ?_
                                        rotate_left
                                        · as_aux_lemma =>
                                            simp only [Act.put, List.setIfInBounds_toArray, List.set_cons_zero, List.set_cons_succ, i64_w, i32_w]
                                            rfl
                                        refine pure_ (i := 16) (N := some 80) (v := undef) (a' := ?_) #[true, true, true, true, true, true, true, true, true, true, true, true, true, true, true, true, true, false, false, false, false] rfl rfl (any_of HT_.out (by kernel_rfl)) (fun _ _ _ h => h) (Or.inr ⟨by rfl, rfl⟩) ?_ ?_
                                        rotate_left
                                        · as_aux_lemma =>
                                            simp only [Act.put, List.setIfInBounds_toArray, List.set_cons_zero, List.set_cons_succ, i64_w, i32_w]
                                            rfl
                                        refine pure_ (i := 17) (N := some 81) (v := undef) (a' := ?_) #[true, true, true, true, true, true, true, true, true, true, true, true, true, true, true, true, true, true, false, false, false] rfl rfl (any_of HT_.out (by kernel_rfl)) (fun _ _ _ h => h) (Or.inr ⟨by rfl, rfl⟩) ?_ ?_
                                        rotate_left
                                        · as_aux_lemma =>
                                            simp only [Act.put, List.setIfInBounds_toArray, List.set_cons_zero, List.set_cons_succ, i64_w, i32_w]
                                            rfl
                                        refine pure_ (i := 18) (N := some 82) (v := undef) (a' := ?_) #[true, true, true, true, true, true, true, true, true, true, true, true, true, true, true, true, true, true, true, false, false] rfl rfl (any_of HT_.out (by kernel_rfl)) (fun _ _ _ h => h) (Or.inr ⟨by rfl, rfl⟩) ?_ ?_
                                        rotate_left
                                        · as_aux_lemma =>
                                            simp only [Act.put, List.setIfInBounds_toArray, List.set_cons_zero, List.set_cons_succ, i64_w, i32_w]
                                            rfl
                                        refine pure_ (i := 19) (N := some 83) (v := undef) (a' := ?_) #[true, true, true, true, true, true, true, true, true, true, true, true, true, true, true, true, true, true, true, true, false] rfl rfl (any_of HT_.out (by kernel_rfl)) (fun _ _ _ h => h) (Or.inr ⟨by rfl, rfl⟩) ?_ ?_
                                        rotate_left
                                        · as_aux_lemma =>
                                            simp only [Act.put, List.setIfInBounds_toArray, List.set_cons_zero, List.set_cons_succ, i64_w, i32_w]
                                            rfl
                                        refine pure_ (i := 20) (N := some 84) (v := ?_) (a' := ?_) #[true, true, true, true, true, true, true, true, true, true, true, true, true, true, true, true, true, true, true, true, true] rfl rfl (any_of HT_.out (by kernel_rfl)) (fun _ _ _ h => h) (Or.inl ⟨by rfl, ?_⟩) ?_ ?_
                                        rotate_left
                                        · as_aux_lemma =>
                                            intro w'
                                            go_simp
                                            with_reducible rfl
                                        rotate_left
                                        · as_aux_lemma =>
                                            simp only [Act.put, List.setIfInBounds_toArray, List.set_cons_zero, List.set_cons_succ, i64_w, i32_w]
                                            rfl
                                        refine done_ (done_of HT_.out (by kernel_rfl)) ?_
                                        try go_wp2
                                        go_roundg k4
                                        case measure => have := HK1.out; have := HK2.out; have := HJ10.out; have := HK4.out; omega
                                        case rel => exact ⟨(wrap64 (x8_4 + 1)), (by first | rfl | (simp; done) | (simp [*]; done)), H', ⟨by have := HK1.out; have := HK2.out; have := HJ10.out; have := HK4.out; omega⟩, ⟨by repeat (first | (with_reducible first | exact HB.out | apply below_alloc | apply pw_below_drewN | apply below_drew1) | exact HB.out)⟩⟩
                                  · rw [if_neg c20] at H
                                    exact absurd H (by simp)
                                · rw [if_neg c19] at H
                                  exact absurd H (by simp)
                              · rw [if_neg c18] at H
                                exact absurd H (by simp)
                            · rw [if_neg c17] at H
                              exact absurd H (by simp)
                          · rw [if_neg c16] at H
                            exact absurd H (by simp)
                        · rw [if_neg c15] at H
                          have c15b0 : decide (x8_4 < (l1.length : Int)) = false := decide_eq_false c15
                          clear c15
                          have H' := Aside0.mk H
                          clear H
                          go_wp2
                          go_roundg k4
                          case measure => have := HK1.out; have := HK2.out; have := HJ10.out; have := HK4.out; omega
                          case rel => exact ⟨(wrap64 (x6_2 + 1)), (by first | rfl | (simp; done) | (simp [*]; done)), H', ⟨by have := HK1.out; have := HK2.out; have := HJ10.out; have := HK4.out; omega⟩, ⟨by repeat (first | (with_reducible first | exact HB.out | apply below_alloc | apply pw_below_drewN | apply below_drew1) | exact HB.out)⟩⟩
            · rw [if_neg c9] at H
              have c9b0 : decide (x6_2 < (l0.length : Int)) = false := decide_eq_false c9
              clear c9
              obtain rfl := Option.some.inj H
              go_wp2
              go_ret
              exact ⟨by first | rfl | (simp [errW_none, errW_some] <;> rfl) | (simp [*, errW_none, errW_some] <;> rfl), by repeat (first | (with_reducible first | exact HB.out | apply below_alloc | apply pw_below_drewN | apply below_drew1) | exact HB.out)⟩

end Go.Proofs.YtphbnfjamclmjaaGreatDoor.PProofMay
