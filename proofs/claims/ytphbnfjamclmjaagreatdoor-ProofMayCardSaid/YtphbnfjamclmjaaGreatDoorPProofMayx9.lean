-- PRINTED BY print.sh 35421559b90ae4d0a3588c463048766b98c2df88dd9212a6774a882060cdf62d: not written by this session
import Derived.Test.YtphbnfjamclmjaaGreatDoorPProofMayx0
import Derived.Test.YtphbnfjamclmjaaGreatDoorPProofMayx6
namespace Go.Proofs.YtphbnfjamclmjaaGreatDoor.PProofMay
open Go.RowKit Go.Proofs.YtphbnfjamclmjaaGreatDoorW.PrintWords Go.Proofs.YtphbnfjamclmjaaGreatDoorW.PrintLast Go.Proofs.YtphbnfjamclmjaaGreatDoorW.PrintMore
attribute [local go_sem] max2_int min2_int max_two min_two max_three min_three max_four min_four   -- for this text's walks alone
set_option linter.unusedVariables false
set_option linter.unusedSimpArgs false

/-! ### burnbagref16_Next: function 12 -/
mutual
def burnbagref16_Next.l0 : Nat → List (S38) → List Int → List Int → Int → Option (List Int)
  | 0, _, _, _, _ => none
  | k + 1, x0, x1, x5, x6 => if x6 < (x0.length : Int) then ((burnbagref16_in.f k x1 x6).bind fun t202 => (if t202 ≥ 0 then (burnbagref16_Next.l0 k x0 x1 x5 (wrap64 (x6 + 1))) else (burnbagref16_Next.l1 k x0 x1 x5 x6 true 0))) else (some x5)
def burnbagref16_Next.l1 : Nat → List (S38) → List Int → List Int → Int → Bool → Int → Option (List Int)
  | 0, _, _, _, _, _, _ => none
  | k + 1, x0, x1, x5, x6, x7, x8 => if x8 < (x0.length : Int) then (if x8 = x6 then (burnbagref16_Next.l1 k x0 x1 x5 x6 x7 (wrap64 (x8 + 1))) else ((burnbagref16_in.f k x1 x8).bind fun t206 => (if t206 < 0 then (if 0 ≤ x8 then (if 0 ≤ x6 then (if x6 < (x0.length : Int) then ((burnbagref14_Ahead.f ((rd_T38 x0 x8).f0) ((rd_T38 x0 x8).f1.f0) ((rd_T38 x0 x8).f1.f1) ((rd_T38 x0 x8).f1.f2) ((rd_T38 x0 x8).f1.f3.f0) ((rd_T38 x0 x8).f1.f3.f1) ((rd_T38 x0 x8).f1.f4) ((rd_T38 x0 x8).f1.f5) ((rd_T38 x0 x8).f2.f0) ((rd_T38 x0 x8).f2.f1.f0) ((rd_T38 x0 x8).f2.f1.f1) ((rd_T38 x0 x8).f2.f2) ((rd_T38 x0 x8).f2.f3) ((rd_T38 x0 x8).f2.f4) ((rd_T38 x0 x8).f3) ((rd_T38 x0 x8).f4) ((rd_T38 x0 x6).f0) ((rd_T38 x0 x6).f1.f0) ((rd_T38 x0 x6).f1.f1) ((rd_T38 x0 x6).f1.f2) ((rd_T38 x0 x6).f1.f3.f0) ((rd_T38 x0 x6).f1.f3.f1) ((rd_T38 x0 x6).f1.f4) ((rd_T38 x0 x6).f1.f5) ((rd_T38 x0 x6).f2.f0) ((rd_T38 x0 x6).f2.f1.f0) ((rd_T38 x0 x6).f2.f1.f1) ((rd_T38 x0 x6).f2.f2) ((rd_T38 x0 x6).f2.f3) ((rd_T38 x0 x6).f2.f4) ((rd_T38 x0 x6).f3) ((rd_T38 x0 x6).f4)).bind fun t209 => (if t209 = true then (burnbagref16_Next.l1 k x0 x1 x5 x6 false (wrap64 (x8 + 1))) else (burnbagref16_Next.l1 k x0 x1 x5 x6 x7 (wrap64 (x8 + 1))))) else (none)) else (none)) else (none)) else (burnbagref16_Next.l1 k x0 x1 x5 x6 x7 (wrap64 (x8 + 1)))))) else (if x7 = true then (if x5.length < 17592186044416 then (burnbagref16_Next.l0 k x0 x1 (x5 ++ [x6]) (wrap64 (x6 + 1))) else (none)) else (burnbagref16_Next.l0 k x0 x1 x5 (wrap64 (x6 + 1))))
end
def burnbagref16_Next.f (k : Nat) (l0 : List (S38)) (l1 : List Int) : Option (List Int) := burnbagref16_Next.l0 k l0 l1 ([] : List Int) 0
theorem burnbagref16_Next.mono_l : ∀ k, (∀ y0 y1 y2 y3, LeO (burnbagref16_Next.l0 k y0 y1 y2 y3) (burnbagref16_Next.l0 (k + 1) y0 y1 y2 y3)) ∧ (∀ y0 y1 y2 y3 y4 y5, LeO (burnbagref16_Next.l1 k y0 y1 y2 y3 y4 y5) (burnbagref16_Next.l1 (k + 1) y0 y1 y2 y3 y4 y5))
  | 0 => ⟨fun _ _ _ _ r h => by simp [burnbagref16_Next.l0] at h, fun _ _ _ _ _ _ r h => by simp [burnbagref16_Next.l1] at h⟩
  | k + 1 => by
    obtain ⟨ih0, ih1⟩ := burnbagref16_Next.mono_l k
    refine ⟨?_, ?_⟩
    · intro y0 y1 y2 y3
      unfold burnbagref16_Next.l0
      repeat' first
      | (with_reducible exact ih0 _ _ _ _)
      | (with_reducible exact ih1 _ _ _ _ _ _)
      | (with_reducible exact burnbagref16_in.mono _ _ _)
      | (with_reducible exact LeO.refl _)
      | (with_reducible exact LeO.none _)
      | (with_reducible refine LeO.ite ?_ ?_)
      | (with_reducible refine LeO.bind ?_ (fun _ => ?_))
      | exact ih0 _ _ _ _
      | exact ih1 _ _ _ _ _ _
      | exact burnbagref16_in.mono _ _ _
      | exact LeO.none _
      | refine LeO.ite ?_ ?_
      | refine LeO.bind ?_ (fun _ => ?_)
    · intro y0 y1 y2 y3 y4 y5
      unfold burnbagref16_Next.l1
      repeat' first
      | (with_reducible exact ih0 _ _ _ _)
      | (with_reducible exact ih1 _ _ _ _ _ _)
      | (with_reducible exact burnbagref16_in.mono _ _ _)
      | (with_reducible exact LeO.refl _)
      | (with_reducible exact LeO.none _)
      | (with_reducible refine LeO.ite ?_ ?_)
      | (with_reducible refine LeO.bind ?_ (fun _ => ?_))
      | exact ih0 _ _ _ _
      | exact ih1 _ _ _ _ _ _
      | exact burnbagref16_in.mono _ _ _
      | exact LeO.none _
      | refine LeO.ite ?_ ?_
      | refine LeO.bind ?_ (fun _ => ?_)
theorem burnbagref16_Next.mono : ∀ a0 a1 k, LeO (burnbagref16_Next.f k a0 a1) (burnbagref16_Next.f (k + 1) a0 a1) := by
  intro a0 a1 k
  obtain ⟨ih0, ih1⟩ := burnbagref16_Next.mono_l k
  unfold burnbagref16_Next.f
  repeat' first
      | (with_reducible exact ih0 _ _ _ _)
      | (with_reducible exact ih1 _ _ _ _ _ _)
      | (with_reducible exact burnbagref16_in.mono _ _ _)
      | (with_reducible exact LeO.refl _)
      | (with_reducible exact LeO.none _)
      | (with_reducible refine LeO.ite ?_ ?_)
      | (with_reducible refine LeO.bind ?_ (fun _ => ?_))
      | exact ih0 _ _ _ _
      | exact ih1 _ _ _ _ _ _
      | exact burnbagref16_in.mono _ _ _
      | exact LeO.none _
      | refine LeO.ite ?_ ?_
      | refine LeO.bind ?_ (fun _ => ?_)
def burnbagref16_Next.T10 : Bool × List (List Nat × List Nat) := (true, [([], []), ([], []), ([0, 1], [0, 1]), ([2], [2]), ([3], [3]), ([3], [3]), ([4, 5, 3, 3], [3, 4, 5]), ([6, 3], [3, 6]), ([3, 7], [3, 7]), ([8, 6], [8]), ([9], [9]), ([9], [9]), ([10, 11, 9], [9, 10, 11]), ([12, 9], [9, 12]), ([9], [9]), ([9], [9]), ([14, 15, 9], [9, 14, 15]), ([16, 9], [9, 16]), ([13, 17, 9, 9], [9, 13, 17]), ([9, 18], [9, 18])])
def burnbagref16_Next.B10 : List Nat := [0, 0, 3, 7, 15, 15, 63, 127, 255, 511, 1023, 1023, 4095, 8191, 1023, 1023, 50175, 115711, 262143, 524287]
theorem burnbagref16_Next.tab10 : rtab .any (opsOf Tryz.f12 10) = burnbagref16_Next.T10 := by kernel_rfl
theorem burnbagref16_Next.bits10 : waitsOk burnbagref16_Next.T10.2 burnbagref16_Next.B10 = true := by kernel_rfl
set_option maxHeartbeats 8000000 in
set_option maxRecDepth 100000 in
theorem burnbagref16_Next.calls (k : Nat) (A0 : Option Addr) (c0 : Nat) (l0 : List (S38)) (A1 : Option Addr) (c1 : Nat) (l1 : List Int) (r : List Int) (w : World) (hr0 : Kd.C k38 w A0 l0.length l0) (hc0 : l0.length ≤ c0) (hr1 : Kd.C (Kd.int .i64) w A1 l1.length l1) (hc1 : l1.length ≤ c1) (h : burnbagref16_Next.f k l0 l1 = some r) :
    Calls Tryz.prog 12 #[.slice A0 l0.length c0, .slice A1 l1.length c1] w fun e w' => ∃ v0_ : Value, e = .returned (v0_) ∧ Kd.R (Kd.int .i64) 3 w' w.heap.size (fun _ => True) v0_ r ∧ Below w.heap.size w w' := by
  have hu38 := Tryz.underlying38
  have HR0 := Aside0.mk hr0
  have HC0 := Aside0.mk hc0
  clear hr0 hc0
  have HR1 := Aside0.mk hr1
  have HC1 := Aside0.mk hc1
  clear hr1 hc1
  have HB := Aside0.mk (Below.refl w.heap.size w)
  have H : (burnbagref16_Next.l0 k l0 l1 ([] : List Int) 0) = some r := h
  clear h
  have H' := Aside0.mk H
  clear H
  go_enter Tryz.func12, Tryz.ntmps12
  go_wp2
  go_loopg [5, 6] k (fun kq v5 v6 w' => ∃ (x5_1 : List Int) (x6_1 : Int), v6 = .int .i64 x6_1 ∧ Aside0 (burnbagref16_Next.l0 kq l0 l1 x5_1 x6_1 = some r) ∧ Aside0 (kq ≤ k) ∧ Aside0 (Kd.R (Kd.int .i64) 3 w' w.heap.size (fun _ => True) v5 x5_1) ∧ Aside0 (Below w.heap.size w w'))
  case atStart => exact ⟨(([] : List Int)), (0), (by first | rfl | (simp; done) | (simp [*]; done)), H', ⟨Nat.le_refl _⟩, ⟨by first | exact Kd.R_nil _ _ _ _ _ | exact Kd.N_nil _ _ _ _ _ | exact Kd.V_nil _ _ _ _ _ | exact Kd.Q_nil _ _ _ _ _ | exact Kd.S_nil _ _ _ _ _⟩, ⟨by repeat (first | (with_reducible first | exact HB.out | apply below_alloc | apply pw_below_drewN | apply below_drew1) | exact HB.out)⟩⟩
  case round =>
    clear H'
    try clear c1
    try clear p2
    obtain ⟨x5_1, x6_1, rfl, HA, HK1, HO_5, HB⟩ := hrel
    cases gk with
    | zero => exact absurd HA.out (by simp [burnbagref16_Next.l0])
    | succ k1 =>
      have H := HA.out
      clear HA
      simp only [burnbagref16_Next.l0] at H
      by_cases c3 : x6_1 < (l0.length : Int)
      · rw [if_pos c3] at H
        have c3b0 : decide (x6_1 < (l0.length : Int)) = true := decide_eq_true c3
        clear c3
        replace H := Option.bind_eq_some_iff.mp H
        obtain ⟨t202, A40, H⟩ := H
        replace H : (if t202 ≥ 0 then (burnbagref16_Next.l0 k1 l0 l1 x5_1 (wrap64 (x6_1 + 1))) else (burnbagref16_Next.l1 k1 l0 l1 x5_1 x6_1 true 0)) = some r := H
        have A4 := Aside0.mk A40
        clear A40
        by_cases c5 : t202 ≥ 0
        · rw [if_pos c5] at H
          have c5b0 : decide (0 ≤ t202) = true := decide_eq_true c5
          clear c5
          have H' := Aside0.mk H
          clear H
          go_wp2_with (first | ((with_reducible refine gate_callee (f := 22) rfl ?_); refine goesL_ (some 17) rfl rfl Tryz.func22 (by kernel_rfl) rfl #[.slice A1 l1.length c1, .int .i64 x6_1] rfl (by (try simp only [List.map_toArray, List.map_cons, List.map_nil]); first | done | rfl | (simp only [List.length_drop, List.length_take]; rfl)) ?_; (with_reducible refine (burnbagref16_in.calls k1 _ _ l1 x6_1 t202 _ ?side1 ?side2 A4.out).mono ?_); (case side1 => repeat (first | exact (Kd.C_below HR1.out HB.out) | (with_reducible refine Kd.C_alloc ?_ _) | (with_reducible refine Kd.C_drewN ?_ _) | (with_reducible refine Kd.C_drew ?_))); (case side2 => exact HC1.out); rintro e w' ⟨rfl, ⟨nd, rfl⟩⟩; refine ⟨_, rfl, ?_⟩))
          go_roundg k1
          case measure => have := HK1.out; omega
          case rel => exact ⟨(x5_1), (wrap64 (x6_1 + 1)), (by first | rfl | (simp; done) | (simp [*]; done)), H', ⟨by have := HK1.out; omega⟩, ⟨by (with_reducible repeat (first | apply Kd.R_alloc | apply Kd.R_drewN | apply Kd.R_drew)); exact HO_5.out⟩, ⟨by repeat (first | (with_reducible first | exact HB.out | apply below_alloc | apply pw_below_drewN | apply below_drew1) | exact HB.out)⟩⟩
        · rw [if_neg c5] at H
          have c5b0 : decide (0 ≤ t202) = false := decide_eq_false c5
          clear c5
          have H' := Aside0.mk H
          clear H
          go_wp2_with (first | ((with_reducible refine gate_callee (f := 22) rfl ?_); refine goesL_ (some 17) rfl rfl Tryz.func22 (by kernel_rfl) rfl #[.slice A1 l1.length c1, .int .i64 x6_1] rfl (by (try simp only [List.map_toArray, List.map_cons, List.map_nil]); first | done | rfl | (simp only [List.length_drop, List.length_take]; rfl)) ?_; (with_reducible refine (burnbagref16_in.calls k1 _ _ l1 x6_1 t202 _ ?side1 ?side2 A4.out).mono ?_); (case side1 => repeat (first | exact (Kd.C_below HR1.out HB.out) | (with_reducible refine Kd.C_alloc ?_ _) | (with_reducible refine Kd.C_drewN ?_ _) | (with_reducible refine Kd.C_drew ?_))); (case side2 => exact HC1.out); rintro e w' ⟨rfl, ⟨nd, rfl⟩⟩; refine ⟨_, rfl, ?_⟩))
          go_loopg [7, 8] k1 (fun kq v7 v8 w' => ∃ (x7_2 : Bool) (x8_2 : Int), v7 = .bool x7_2 ∧ v8 = .int .i64 x8_2 ∧ Aside0 (burnbagref16_Next.l1 kq l0 l1 x5_1 x6_1 x7_2 x8_2 = some r) ∧ Aside0 (kq ≤ k1) ∧ Aside0 (Kd.R (Kd.int .i64) 3 w' w.heap.size (fun _ => True) u5 x5_1) ∧ Aside0 (Below w.heap.size w w'))
          case atStart => exact ⟨(true), (0), (by first | rfl | (simp; done) | (simp [*]; done)), (by first | rfl | (simp; done) | (simp [*]; done)), H', ⟨Nat.le_refl _⟩, ⟨by (with_reducible repeat (first | apply Kd.R_alloc | apply Kd.R_drewN | apply Kd.R_drew)); exact HO_5.out⟩, ⟨by repeat (first | (with_reducible first | exact HB.out | apply below_alloc | apply pw_below_drewN | apply below_drew1) | exact HB.out)⟩⟩
          case round =>
            clear H'
            try clear c1
            try clear c2
            try clear p2
            try clear c3
            try clear c3b0
            try clear c5
            try clear c5b0
            try clear p2
            obtain ⟨x7_2, x8_2, rfl, rfl, HA, HK2, HO_5, HB⟩ := hrel
            cases gk with
            | zero => exact absurd HA.out (by simp [burnbagref16_Next.l1])
            | succ k2 =>
              have H := HA.out
              clear HA
              simp only [burnbagref16_Next.l1] at H
              by_cases c6 : x8_2 < (l0.length : Int)
              · rw [if_pos c6] at H
                have c6b0 : decide (x8_2 < (l0.length : Int)) = true := decide_eq_true c6
                clear c6
                by_cases c7 : x8_2 = x6_1
                · rw [if_pos c7] at H
                  have c7b0 : (x8_2 == x6_1) = true := beq_iff_eq.mpr c7
                  have c7b1 : (x8_2 != x6_1) = false := bne_eq_false_iff_eq.mpr c7
                  clear c7
                  have H' := Aside0.mk H
                  clear H
                  try go_wp2
                  have n0_ := Aside0.mk (Kd.R_drew HO_5.out)
                  have n1_ := Aside0.mk (below_drew1 HB.out)
                  clear HO_5
                  clear HB
                  have HO_5 := n0_
                  have HB := n1_
                  clear n0_ n1_
                  refine start_ (n := 20) (S := fun w' => True) (ds := []) #[false, false, false, false, false, false, false, false, false, false, false, false, false, false, false, false, false, false, false, false] (by kernel_rfl) rfl rfl trivial (fun hHeld => ?_); refine with_tabW burnbagref16_Next.tab10 burnbagref16_Next.bits10 (fun HT_ HW_ => ?_)
                  generalize wr.drew = w8 at HO_5 HB hHeld ⊢
                  refine pure_ (i := 0) (N := some 25) (v := ?_) (a' := ?_) #[true, false, false, false, false, false, false, false, false, false, false, false, false, false, false, false, false, false, false, false] rfl rfl (any_of HT_.out (by kernel_rfl)) (fun _ _ _ h => h) (Or.inl ⟨by rfl, ?_⟩) ?_ ?_
                  rotate_left
                  · intro w'
                    go_simp
                    with_reducible rfl
                  rotate_left
                  · simp only [Act.put, List.setIfInBounds_toArray, List.set_cons_zero, List.set_cons_succ, i64_w, i32_w]
                    rfl
                  refine pure_ (i := 1) (N := some 26) (v := ?_) (a' := ?_) #[true, true, false, false, false, false, false, false, false, false, false, false, false, false, false, false, false, false, false, false] rfl rfl (any_of HT_.out (by kernel_rfl)) (fun _ _ _ h => h) (Or.inl ⟨by rfl, ?_⟩) ?_ ?_
                  rotate_left
                  · intro w'
                    go_simp
                    with_reducible rfl
                  rotate_left
                  · simp only [Act.put, List.setIfInBounds_toArray, List.set_cons_zero, List.set_cons_succ, i64_w, i32_w]
                    rfl
                  refine pure_ (i := 2) (N := some 27) (v := ?_) (a' := ?_) #[true, true, true, false, false, false, false, false, false, false, false, false, false, false, false, false, false, false, false, false] rfl rfl (any_of HT_.out (by kernel_rfl)) (fun _ _ _ h => h) (Or.inl ⟨by rfl, ?_⟩) ?_ ?_
                  rotate_left
                  · intro w'
                    go_simp
                    with_reducible rfl
                  rotate_left
                  · simp only [Act.put, List.setIfInBounds_toArray, List.set_cons_zero, List.set_cons_succ, i64_w, i32_w]
                    rfl
                  refine pure_ (i := 3) (N := some 28) (v := ?_) (a' := ?_) #[true, true, true, true, false, false, false, false, false, false, false, false, false, false, false, false, false, false, false, false] rfl rfl (any_of HT_.out (by kernel_rfl)) (fun _ _ _ h => h) (Or.inl ⟨by rfl, ?_⟩) ?_ ?_
                  rotate_left
                  · intro w'
                    go_simp
                    with_reducible rfl
                  rotate_left
                  · simp only [Act.put, List.setIfInBounds_toArray, List.set_cons_zero, List.set_cons_succ, i64_w, i32_w]
                    rfl
                  refine pure_ (i := 4) (N := some 29) (v := undef) (a' := ?_) #[true, true, true, true, true, false, false, false, false, false, false, false, false, false, false, false, false, false, false, false] rfl rfl (any_of HT_.out (by kernel_rfl)) (fun _ _ _ h => h) (Or.inr ⟨by rfl, rfl⟩) ?_ ?_
                  rotate_left
                  · simp only [Act.put, List.setIfInBounds_toArray, List.set_cons_zero, List.set_cons_succ, i64_w, i32_w]
                    rfl
                  refine pure_ (i := 5) (N := some 30) (v := undef) (a' := ?_) #[true, true, true, true, true, true, false, false, false, false, false, false, false, false, false, false, false, false, false, false] rfl rfl (any_of HT_.out (by kernel_rfl)) (fun _ _ _ h => h) (Or.inr ⟨by rfl, rfl⟩) ?_ ?_
                  rotate_left
                  · simp only [Act.put, List.setIfInBounds_toArray, List.set_cons_zero, List.set_cons_succ, i64_w, i32_w]
                    rfl
                  refine pure_ (i := 6) (N := some 31) (v := undef) (a' := ?_) #[true, true, true, true, true, true, true, false, false, false, false, false, false, false, false, false, false, false, false, false] rfl rfl (any_of HT_.out (by kernel_rfl)) (fun _ _ _ h => h) (Or.inr ⟨by rfl, rfl⟩) ?_ ?_
                  rotate_left
                  · simp only [Act.put, List.setIfInBounds_toArray, List.set_cons_zero, List.set_cons_succ, i64_w, i32_w]
                    rfl
                  refine pure_ (i := 7) (N := some 32) (v := undef) (a' := ?_) #[true, true, true, true, true, true, true, true, false, false, false, false, false, false, false, false, false, false, false, false] rfl rfl (any_of HT_.out (by kernel_rfl)) (fun _ _ _ h => h) (Or.inr ⟨by rfl, rfl⟩) ?_ ?_
                  rotate_left
                  · simp only [Act.put, List.setIfInBounds_toArray, List.set_cons_zero, List.set_cons_succ, i64_w, i32_w]
                    rfl
                  refine pure_ (i := 8) (N := some 33) (v := ?_) (a' := ?_) #[true, true, true, true, true, true, true, true, true, false, false, false, false, false, false, false, false, false, false, false] rfl rfl (any_of HT_.out (by kernel_rfl)) (fun _ _ _ h => h) (Or.inl ⟨by rfl, ?_⟩) ?_ ?_
                  rotate_left
                  · intro w'
                    go_simp
                    with_reducible rfl
                  rotate_left
                  · simp only [Act.put, List.setIfInBounds_toArray, List.set_cons_zero, List.set_cons_succ, i64_w, i32_w]
                    rfl
                  refine pure_ (i := 9) (N := some 34) (v := ?_) (a' := ?_) #[true, true, true, true, true, true, true, true, true, true, false, false, false, false, false, false, false, false, false, false] rfl rfl (any_of HT_.out (by kernel_rfl)) (fun _ _ _ h => h) (Or.inl ⟨by rfl, ?_⟩) ?_ ?_
                  rotate_left
                  · intro w'
                    go_simp
                    with_reducible rfl
                  rotate_left
                  · simp only [Act.put, List.setIfInBounds_toArray, List.set_cons_zero, List.set_cons_succ, i64_w, i32_w]
                    rfl
                  refine pure_ (i := 10) (N := some 35) (v := undef) (a' := ?_) #[true, true, true, true, true, true, true, true, true, true, true, false, false, false, false, false, false, false, false, false] rfl rfl (any_of HT_.out (by kernel_rfl)) (fun _ _ _ h => h) (Or.inr ⟨by rfl, rfl⟩) ?_ ?_
                  rotate_left
                  · simp only [Act.put, List.setIfInBounds_toArray, List.set_cons_zero, List.set_cons_succ, i64_w, i32_w]
                    rfl
                  refine pure_ (i := 11) (N := some 36) (v := undef) (a' := ?_) #[true, true, true, true, true, true, true, true, true, true, true, true, false, false, false, false, false, false, false, false] rfl rfl (any_of HT_.out (by kernel_rfl)) (fun _ _ _ h => h) (Or.inr ⟨by rfl, rfl⟩) ?_ ?_
                  rotate_left
                  · simp only [Act.put, List.setIfInBounds_toArray, List.set_cons_zero, List.set_cons_succ, i64_w, i32_w]
                    rfl
                  refine pure_ (i := 12) (N := some 37) (v := undef) (a' := ?_) #[true, true, true, true, true, true, true, true, true, true, true, true, true, false, false, false, false, false, false, false] rfl rfl (any_of HT_.out (by kernel_rfl)) (fun _ _ _ h => h) (Or.inr ⟨by rfl, rfl⟩) ?_ ?_
                  rotate_left
                  · simp only [Act.put, List.setIfInBounds_toArray, List.set_cons_zero, List.set_cons_succ, i64_w, i32_w]
                    rfl
                  refine pure_ (i := 13) (N := some 38) (v := undef) (a' := ?_) #[true, true, true, true, true, true, true, true, true, true, true, true, true, true, false, false, false, false, false, false] rfl rfl (any_of HT_.out (by kernel_rfl)) (fun _ _ _ h => h) (Or.inr ⟨by rfl, rfl⟩) ?_ ?_
                  rotate_left
                  · simp only [Act.put, List.setIfInBounds_toArray, List.set_cons_zero, List.set_cons_succ, i64_w, i32_w]
                    rfl
                  refine pure_ (i := 14) (N := some 39) (v := undef) (a' := ?_) #[true, true, true, true, true, true, true, true, true, true, true, true, true, true, true, false, false, false, false, false] rfl rfl (any_of HT_.out (by kernel_rfl)) (fun _ _ _ h => h) (Or.inr ⟨by rfl, rfl⟩) ?_ ?_
                  rotate_left
                  · simp only [Act.put, List.setIfInBounds_toArray, List.set_cons_zero, List.set_cons_succ, i64_w, i32_w]
                    rfl
                  refine pure_ (i := 15) (N := some 40) (v := undef) (a' := ?_) #[true, true, true, true, true, true, true, true, true, true, true, true, true, true, true, true, false, false, false, false] rfl rfl (any_of HT_.out (by kernel_rfl)) (fun _ _ _ h => h) (Or.inr ⟨by rfl, rfl⟩) ?_ ?_
                  rotate_left
                  · simp only [Act.put, List.setIfInBounds_toArray, List.set_cons_zero, List.set_cons_succ, i64_w, i32_w]
                    rfl
                  refine pure_ (i := 16) (N := some 41) (v := undef) (a' := ?_) #[true, true, true, true, true, true, true, true, true, true, true, true, true, true, true, true, true, false, false, false] rfl rfl (any_of HT_.out (by kernel_rfl)) (fun _ _ _ h => h) (Or.inr ⟨by rfl, rfl⟩) ?_ ?_
                  rotate_left
                  · simp only [Act.put, List.setIfInBounds_toArray, List.set_cons_zero, List.set_cons_succ, i64_w, i32_w]
                    rfl
                  refine pure_ (i := 17) (N := some 42) (v := undef) (a' := ?_) #[true, true, true, true, true, true, true, true, true, true, true, true, true, true, true, true, true, true, false, false] rfl rfl (any_of HT_.out (by kernel_rfl)) (fun _ _ _ h => h) (Or.inr ⟨by rfl, rfl⟩) ?_ ?_
                  rotate_left
                  · simp only [Act.put, List.setIfInBounds_toArray, List.set_cons_zero, List.set_cons_succ, i64_w, i32_w]
                    rfl
                  refine pure_ (i := 18) (N := some 43) (v := undef) (a' := ?_) #[true, true, true, true, true, true, true, true, true, true, true, true, true, true, true, true, true, true, true, false] rfl rfl (any_of HT_.out (by kernel_rfl)) (fun _ _ _ h => h) (Or.inr ⟨by rfl, rfl⟩) ?_ ?_
                  rotate_left
                  · simp only [Act.put, List.setIfInBounds_toArray, List.set_cons_zero, List.set_cons_succ, i64_w, i32_w]
                    rfl
                  refine pure_ (i := 19) (N := some 44) (v := ?_) (a' := ?_) #[true, true, true, true, true, true, true, true, true, true, true, true, true, true, true, true, true, true, true, true] rfl rfl (any_of HT_.out (by kernel_rfl)) (fun _ _ _ h => h) (Or.inl ⟨by rfl, ?_⟩) ?_ ?_
                  rotate_left
                  · intro w'
                    go_simp
                    with_reducible rfl
                  rotate_left
                  · simp only [Act.put, List.setIfInBounds_toArray, List.set_cons_zero, List.set_cons_succ, i64_w, i32_w]
                    rfl
                  refine done_ (done_of HT_.out (by kernel_rfl)) ?_
                  try go_wp2
                  go_roundg k2
                  case measure => have := HK1.out; have := HK2.out; omega
                  case rel => exact ⟨(x7_2), (wrap64 (x8_2 + 1)), (by first | rfl | (simp; done) | (simp [*]; done)), (by first | rfl | (simp; done) | (simp [*]; done)), H', ⟨by have := HK1.out; have := HK2.out; omega⟩, ⟨by (with_reducible repeat (first | apply Kd.R_alloc | apply Kd.R_drewN | apply Kd.R_drew)); exact HO_5.out⟩, ⟨by repeat (first | (with_reducible first | exact HB.out | apply below_alloc | apply pw_below_drewN | apply below_drew1) | exact HB.out)⟩⟩
                · rw [if_neg c7] at H
                  have c7b0 : (x8_2 == x6_1) = false := beq_eq_false_iff_ne.mpr c7
                  have c7b1 : (x8_2 != x6_1) = true := bne_iff_ne.mpr c7
                  replace H := Option.bind_eq_some_iff.mp H
                  obtain ⟨t206, A90, H⟩ := H
                  replace H : (if t206 < 0 then (if 0 ≤ x8_2 then (if 0 ≤ x6_1 then (if x6_1 < (l0.length : Int) then ((burnbagref14_Ahead.f ((rd_T38 l0 x8_2).f0) ((rd_T38 l0 x8_2).f1.f0) ((rd_T38 l0 x8_2).f1.f1) ((rd_T38 l0 x8_2).f1.f2) ((rd_T38 l0 x8_2).f1.f3.f0) ((rd_T38 l0 x8_2).f1.f3.f1) ((rd_T38 l0 x8_2).f1.f4) ((rd_T38 l0 x8_2).f1.f5) ((rd_T38 l0 x8_2).f2.f0) ((rd_T38 l0 x8_2).f2.f1.f0) ((rd_T38 l0 x8_2).f2.f1.f1) ((rd_T38 l0 x8_2).f2.f2) ((rd_T38 l0 x8_2).f2.f3) ((rd_T38 l0 x8_2).f2.f4) ((rd_T38 l0 x8_2).f3) ((rd_T38 l0 x8_2).f4) ((rd_T38 l0 x6_1).f0) ((rd_T38 l0 x6_1).f1.f0) ((rd_T38 l0 x6_1).f1.f1) ((rd_T38 l0 x6_1).f1.f2) ((rd_T38 l0 x6_1).f1.f3.f0) ((rd_T38 l0 x6_1).f1.f3.f1) ((rd_T38 l0 x6_1).f1.f4) ((rd_T38 l0 x6_1).f1.f5) ((rd_T38 l0 x6_1).f2.f0) ((rd_T38 l0 x6_1).f2.f1.f0) ((rd_T38 l0 x6_1).f2.f1.f1) ((rd_T38 l0 x6_1).f2.f2) ((rd_T38 l0 x6_1).f2.f3) ((rd_T38 l0 x6_1).f2.f4) ((rd_T38 l0 x6_1).f3) ((rd_T38 l0 x6_1).f4)).bind fun t209 => (if t209 = true then (burnbagref16_Next.l1 k2 l0 l1 x5_1 x6_1 false (wrap64 (x8_2 + 1))) else (burnbagref16_Next.l1 k2 l0 l1 x5_1 x6_1 x7_2 (wrap64 (x8_2 + 1))))) else (none)) else (none)) else (none)) else (burnbagref16_Next.l1 k2 l0 l1 x5_1 x6_1 x7_2 (wrap64 (x8_2 + 1)))) = some r := H
                  have A9 := Aside0.mk A90
                  clear A90
                  by_cases c10 : t206 < 0
                  · rw [if_pos c10] at H
                    have c10b0 : decide (t206 < 0) = true := decide_eq_true c10
                    clear c10
                    by_cases c11 : 0 ≤ x8_2
                    · rw [if_pos c11] at H
                      have c11b0 : decide (0 ≤ x8_2) = true := decide_eq_true c11
                      clear c11
                      by_cases c12 : 0 ≤ x6_1
                      · rw [if_pos c12] at H
                        have c12b0 : decide (0 ≤ x6_1) = true := decide_eq_true c12
                        clear c12
                        by_cases c13 : x6_1 < (l0.length : Int)
                        · rw [if_pos c13] at H
                          have c13b0 : decide (x6_1 < (l0.length : Int)) = true := decide_eq_true c13
                          clear c13
                          replace H := Option.bind_eq_some_iff.mp H
                          obtain ⟨t209, A140, H⟩ := H
                          replace H : (if t209 = true then (burnbagref16_Next.l1 k2 l0 l1 x5_1 x6_1 false (wrap64 (x8_2 + 1))) else (burnbagref16_Next.l1 k2 l0 l1 x5_1 x6_1 x7_2 (wrap64 (x8_2 + 1)))) = some r := H
                          have A14 := Aside0.mk A140
                          clear A140
                          by_cases c15 : t209 = true
                          · subst c15
                            have H1 : (burnbagref16_Next.l1 k2 l0 l1 x5_1 x6_1 false (wrap64 (x8_2 + 1))) = some r := by rw [if_pos rfl] at H; exact H
                            clear H
                            have H := H1
                            clear H1
                            have H' := Aside0.mk H
                            clear H
                            try go_wp2
                            have n0_ := Aside0.mk (Kd.R_drew HO_5.out)
                            have n1_ := Aside0.mk (below_drew1 HB.out)
                            clear HO_5
                            clear HB
                            have HO_5 := n0_
                            have HB := n1_
                            clear n0_ n1_
                            have p207 : 0 ≤ (x8_2 : Int) := of_decide_eq_true (by first | (with_reducible assumption) | assumption)
                            have q207 : x8_2 < (l0.length : Int) := of_decide_eq_true (by first | (with_reducible assumption) | assumption)
                            obtain ⟨ad207, e207, hx207_0, hx207_1, hx207_2, hx207_3, hx207_4, hx207_5, hx207_6, hx207_7, hx207_8, hx207_9, hx207_10, hx207_11, hx207_12, hx207_13, hx207_14, hx207_15⟩ := at_T38 HR0.out x8_2 p207 q207
                            have hw207_15 := hx207_15
                            have hw207_14 := hx207_14
                            have hw207_13 := hx207_13
                            have hw207_12 := hx207_12
                            have hw207_11 := hx207_11
                            have hw207_10 := hx207_10
                            have hw207_9 := hx207_9
                            have hw207_8 := hx207_8
                            have hw207_7 := hx207_7
                            have hw207_6 := hx207_6
                            have hw207_5 := hx207_5
                            have hw207_4 := hx207_4
                            have hw207_3 := hx207_3
                            have hw207_2 := hx207_2
                            have hw207_1 := hx207_1
                            have hw207_0 := hx207_0
                            cases e207
                            replace hx207_0 := (HB.out.cell (World.block_lt_of_cell? w _ hx207_0)).trans hx207_0
                            replace hx207_1 := (HB.out.cell (World.block_lt_of_cell? w _ hx207_1)).trans hx207_1
                            replace hx207_2 := (HB.out.cell (World.block_lt_of_cell? w _ hx207_2)).trans hx207_2
                            replace hx207_3 := (HB.out.cell (World.block_lt_of_cell? w _ hx207_3)).trans hx207_3
                            replace hx207_4 := (HB.out.cell (World.block_lt_of_cell? w _ hx207_4)).trans hx207_4
                            replace hx207_5 := (HB.out.cell (World.block_lt_of_cell? w _ hx207_5)).trans hx207_5
                            replace hx207_6 := (HB.out.cell (World.block_lt_of_cell? w _ hx207_6)).trans hx207_6
                            replace hx207_7 := (HB.out.cell (World.block_lt_of_cell? w _ hx207_7)).trans hx207_7
                            replace hx207_8 := (HB.out.cell (World.block_lt_of_cell? w _ hx207_8)).trans hx207_8
                            replace hx207_9 := (HB.out.cell (World.block_lt_of_cell? w _ hx207_9)).trans hx207_9
                            replace hx207_10 := (HB.out.cell (World.block_lt_of_cell? w _ hx207_10)).trans hx207_10
                            replace hx207_11 := (HB.out.cell (World.block_lt_of_cell? w _ hx207_11)).trans hx207_11
                            replace hx207_12 := (HB.out.cell (World.block_lt_of_cell? w _ hx207_12)).trans hx207_12
                            replace hx207_13 := (HB.out.cell (World.block_lt_of_cell? w _ hx207_13)).trans hx207_13
                            replace hx207_14 := (HB.out.cell (World.block_lt_of_cell? w _ hx207_14)).trans hx207_14
                            replace hx207_15 := (HB.out.cell (World.block_lt_of_cell? w _ hx207_15)).trans hx207_15
                            replace p207 := eq_true p207
                            replace q207 := eq_true q207
                            have p208 : 0 ≤ (x6_1 : Int) := of_decide_eq_true (by first | (with_reducible assumption) | assumption)
                            have q208 : x6_1 < (l0.length : Int) := of_decide_eq_true (by first | (with_reducible assumption) | assumption)
                            obtain ⟨ad208, e208, hx208_0, hx208_1, hx208_2, hx208_3, hx208_4, hx208_5, hx208_6, hx208_7, hx208_8, hx208_9, hx208_10, hx208_11, hx208_12, hx208_13, hx208_14, hx208_15⟩ := at_T38 HR0.out x6_1 p208 q208
                            have hw208_15 := hx208_15
                            have hw208_14 := hx208_14
                            have hw208_13 := hx208_13
                            have hw208_12 := hx208_12
                            have hw208_11 := hx208_11
                            have hw208_10 := hx208_10
                            have hw208_9 := hx208_9
                            have hw208_8 := hx208_8
                            have hw208_7 := hx208_7
                            have hw208_6 := hx208_6
                            have hw208_5 := hx208_5
                            have hw208_4 := hx208_4
                            have hw208_3 := hx208_3
                            have hw208_2 := hx208_2
                            have hw208_1 := hx208_1
                            have hw208_0 := hx208_0
                            obtain rfl : ad207 = ad208 := (by injection e208)
                            replace hx208_0 := (HB.out.cell (World.block_lt_of_cell? w _ hx208_0)).trans hx208_0
                            replace hx208_1 := (HB.out.cell (World.block_lt_of_cell? w _ hx208_1)).trans hx208_1
                            replace hx208_2 := (HB.out.cell (World.block_lt_of_cell? w _ hx208_2)).trans hx208_2
                            replace hx208_3 := (HB.out.cell (World.block_lt_of_cell? w _ hx208_3)).trans hx208_3
                            replace hx208_4 := (HB.out.cell (World.block_lt_of_cell? w _ hx208_4)).trans hx208_4
                            replace hx208_5 := (HB.out.cell (World.block_lt_of_cell? w _ hx208_5)).trans hx208_5
                            replace hx208_6 := (HB.out.cell (World.block_lt_of_cell? w _ hx208_6)).trans hx208_6
                            replace hx208_7 := (HB.out.cell (World.block_lt_of_cell? w _ hx208_7)).trans hx208_7
                            replace hx208_8 := (HB.out.cell (World.block_lt_of_cell? w _ hx208_8)).trans hx208_8
                            replace hx208_9 := (HB.out.cell (World.block_lt_of_cell? w _ hx208_9)).trans hx208_9
                            replace hx208_10 := (HB.out.cell (World.block_lt_of_cell? w _ hx208_10)).trans hx208_10
                            replace hx208_11 := (HB.out.cell (World.block_lt_of_cell? w _ hx208_11)).trans hx208_11
                            replace hx208_12 := (HB.out.cell (World.block_lt_of_cell? w _ hx208_12)).trans hx208_12
                            replace hx208_13 := (HB.out.cell (World.block_lt_of_cell? w _ hx208_13)).trans hx208_13
                            replace hx208_14 := (HB.out.cell (World.block_lt_of_cell? w _ hx208_14)).trans hx208_14
                            replace hx208_15 := (HB.out.cell (World.block_lt_of_cell? w _ hx208_15)).trans hx208_15
                            replace p208 := eq_true p208
                            replace q208 := eq_true q208
                            refine start_ (n := 20) (S := fun w' => w'.cell? (ad207.add ((x8_2).toNat * 16)) = some (.int .i64 ((rd_T38 l0 x8_2).f0)) ∧ w'.cell? ⟨(ad207.add ((x8_2).toNat * 16)).block, (ad207.add ((x8_2).toNat * 16)).off + 1, none⟩ = some (.int .i64 ((rd_T38 l0 x8_2).f1.f0)) ∧ w'.cell? ⟨(ad207.add ((x8_2).toNat * 16)).block, (ad207.add ((x8_2).toNat * 16)).off + 2, none⟩ = some (.int .i64 ((rd_T38 l0 x8_2).f1.f1)) ∧ w'.cell? ⟨(ad207.add ((x8_2).toNat * 16)).block, (ad207.add ((x8_2).toNat * 16)).off + 3, none⟩ = some (.int .i64 ((rd_T38 l0 x8_2).f1.f2)) ∧ w'.cell? ⟨(ad207.add ((x8_2).toNat * 16)).block, (ad207.add ((x8_2).toNat * 16)).off + 4, none⟩ = some (.int .u64 ((rd_T38 l0 x8_2).f1.f3.f0)) ∧ w'.cell? ⟨(ad207.add ((x8_2).toNat * 16)).block, (ad207.add ((x8_2).toNat * 16)).off + 5, none⟩ = some (.int .u64 ((rd_T38 l0 x8_2).f1.f3.f1)) ∧ w'.cell? ⟨(ad207.add ((x8_2).toNat * 16)).block, (ad207.add ((x8_2).toNat * 16)).off + 6, none⟩ = some (.int .u64 ((rd_T38 l0 x8_2).f1.f4)) ∧ w'.cell? ⟨(ad207.add ((x8_2).toNat * 16)).block, (ad207.add ((x8_2).toNat * 16)).off + 7, none⟩ = some (.int .i64 ((rd_T38 l0 x8_2).f1.f5)) ∧ w'.cell? ⟨(ad207.add ((x8_2).toNat * 16)).block, (ad207.add ((x8_2).toNat * 16)).off + 8, none⟩ = some (.int .i64 ((rd_T38 l0 x8_2).f2.f0)) ∧ w'.cell? ⟨(ad207.add ((x8_2).toNat * 16)).block, (ad207.add ((x8_2).toNat * 16)).off + 9, none⟩ = some (.int .u64 ((rd_T38 l0 x8_2).f2.f1.f0)) ∧ w'.cell? ⟨(ad207.add ((x8_2).toNat * 16)).block, (ad207.add ((x8_2).toNat * 16)).off + 10, none⟩ = some (.int .u64 ((rd_T38 l0 x8_2).f2.f1.f1)) ∧ w'.cell? ⟨(ad207.add ((x8_2).toNat * 16)).block, (ad207.add ((x8_2).toNat * 16)).off + 11, none⟩ = some (.int .u64 ((rd_T38 l0 x8_2).f2.f2)) ∧ w'.cell? ⟨(ad207.add ((x8_2).toNat * 16)).block, (ad207.add ((x8_2).toNat * 16)).off + 12, none⟩ = some (.int .i64 ((rd_T38 l0 x8_2).f2.f3)) ∧ w'.cell? ⟨(ad207.add ((x8_2).toNat * 16)).block, (ad207.add ((x8_2).toNat * 16)).off + 13, none⟩ = some (.int .i64 ((rd_T38 l0 x8_2).f2.f4)) ∧ w'.cell? ⟨(ad207.add ((x8_2).toNat * 16)).block, (ad207.add ((x8_2).toNat * 16)).off + 14, none⟩ = some (.int .i64 ((rd_T38 l0 x8_2).f3)) ∧ w'.cell? ⟨(ad207.add ((x8_2).toNat * 16)).block, (ad207.add ((x8_2).toNat * 16)).off + 15, none⟩ = some (.int .i64 ((rd_T38 l0 x8_2).f4)) ∧ w'.cell? (ad207.add ((x6_1).toNat * 16)) = some (.int .i64 ((rd_T38 l0 x6_1).f0)) ∧ w'.cell? ⟨(ad207.add ((x6_1).toNat * 16)).block, (ad207.add ((x6_1).toNat * 16)).off + 1, none⟩ = some (.int .i64 ((rd_T38 l0 x6_1).f1.f0)) ∧ w'.cell? ⟨(ad207.add ((x6_1).toNat * 16)).block, (ad207.add ((x6_1).toNat * 16)).off + 2, none⟩ = some (.int .i64 ((rd_T38 l0 x6_1).f1.f1)) ∧ w'.cell? ⟨(ad207.add ((x6_1).toNat * 16)).block, (ad207.add ((x6_1).toNat * 16)).off + 3, none⟩ = some (.int .i64 ((rd_T38 l0 x6_1).f1.f2)) ∧ w'.cell? ⟨(ad207.add ((x6_1).toNat * 16)).block, (ad207.add ((x6_1).toNat * 16)).off + 4, none⟩ = some (.int .u64 ((rd_T38 l0 x6_1).f1.f3.f0)) ∧ w'.cell? ⟨(ad207.add ((x6_1).toNat * 16)).block, (ad207.add ((x6_1).toNat * 16)).off + 5, none⟩ = some (.int .u64 ((rd_T38 l0 x6_1).f1.f3.f1)) ∧ w'.cell? ⟨(ad207.add ((x6_1).toNat * 16)).block, (ad207.add ((x6_1).toNat * 16)).off + 6, none⟩ = some (.int .u64 ((rd_T38 l0 x6_1).f1.f4)) ∧ w'.cell? ⟨(ad207.add ((x6_1).toNat * 16)).block, (ad207.add ((x6_1).toNat * 16)).off + 7, none⟩ = some (.int .i64 ((rd_T38 l0 x6_1).f1.f5)) ∧ w'.cell? ⟨(ad207.add ((x6_1).toNat * 16)).block, (ad207.add ((x6_1).toNat * 16)).off + 8, none⟩ = some (.int .i64 ((rd_T38 l0 x6_1).f2.f0)) ∧ w'.cell? ⟨(ad207.add ((x6_1).toNat * 16)).block, (ad207.add ((x6_1).toNat * 16)).off + 9, none⟩ = some (.int .u64 ((rd_T38 l0 x6_1).f2.f1.f0)) ∧ w'.cell? ⟨(ad207.add ((x6_1).toNat * 16)).block, (ad207.add ((x6_1).toNat * 16)).off + 10, none⟩ = some (.int .u64 ((rd_T38 l0 x6_1).f2.f1.f1)) ∧ w'.cell? ⟨(ad207.add ((x6_1).toNat * 16)).block, (ad207.add ((x6_1).toNat * 16)).off + 11, none⟩ = some (.int .u64 ((rd_T38 l0 x6_1).f2.f2)) ∧ w'.cell? ⟨(ad207.add ((x6_1).toNat * 16)).block, (ad207.add ((x6_1).toNat * 16)).off + 12, none⟩ = some (.int .i64 ((rd_T38 l0 x6_1).f2.f3)) ∧ w'.cell? ⟨(ad207.add ((x6_1).toNat * 16)).block, (ad207.add ((x6_1).toNat * 16)).off + 13, none⟩ = some (.int .i64 ((rd_T38 l0 x6_1).f2.f4)) ∧ w'.cell? ⟨(ad207.add ((x6_1).toNat * 16)).block, (ad207.add ((x6_1).toNat * 16)).off + 14, none⟩ = some (.int .i64 ((rd_T38 l0 x6_1).f3)) ∧ w'.cell? ⟨(ad207.add ((x6_1).toNat * 16)).block, (ad207.add ((x6_1).toNat * 16)).off + 15, none⟩ = some (.int .i64 ((rd_T38 l0 x6_1).f4))) (ds := []) #[false, false, false, false, false, false, false, false, false, false, false, false, false, false, false, false, false, false, false, false] (by kernel_rfl) rfl rfl ⟨((HB.out.cell (World.block_lt_of_cell? w _ hw207_0)).trans hw207_0), ((HB.out.cell (World.block_lt_of_cell? w _ hw207_1)).trans hw207_1), ((HB.out.cell (World.block_lt_of_cell? w _ hw207_2)).trans hw207_2), ((HB.out.cell (World.block_lt_of_cell? w _ hw207_3)).trans hw207_3), ((HB.out.cell (World.block_lt_of_cell? w _ hw207_4)).trans hw207_4), ((HB.out.cell (World.block_lt_of_cell? w _ hw207_5)).trans hw207_5), ((HB.out.cell (World.block_lt_of_cell? w _ hw207_6)).trans hw207_6), ((HB.out.cell (World.block_lt_of_cell? w _ hw207_7)).trans hw207_7), ((HB.out.cell (World.block_lt_of_cell? w _ hw207_8)).trans hw207_8), ((HB.out.cell (World.block_lt_of_cell? w _ hw207_9)).trans hw207_9), ((HB.out.cell (World.block_lt_of_cell? w _ hw207_10)).trans hw207_10), ((HB.out.cell (World.block_lt_of_cell? w _ hw207_11)).trans hw207_11), ((HB.out.cell (World.block_lt_of_cell? w _ hw207_12)).trans hw207_12), ((HB.out.cell (World.block_lt_of_cell? w _ hw207_13)).trans hw207_13), ((HB.out.cell (World.block_lt_of_cell? w _ hw207_14)).trans hw207_14), ((HB.out.cell (World.block_lt_of_cell? w _ hw207_15)).trans hw207_15), ((HB.out.cell (World.block_lt_of_cell? w _ hw208_0)).trans hw208_0), ((HB.out.cell (World.block_lt_of_cell? w _ hw208_1)).trans hw208_1), ((HB.out.cell (World.block_lt_of_cell? w _ hw208_2)).trans hw208_2), ((HB.out.cell (World.block_lt_of_cell? w _ hw208_3)).trans hw208_3), ((HB.out.cell (World.block_lt_of_cell? w _ hw208_4)).trans hw208_4), ((HB.out.cell (World.block_lt_of_cell? w _ hw208_5)).trans hw208_5), ((HB.out.cell (World.block_lt_of_cell? w _ hw208_6)).trans hw208_6), ((HB.out.cell (World.block_lt_of_cell? w _ hw208_7)).trans hw208_7), ((HB.out.cell (World.block_lt_of_cell? w _ hw208_8)).trans hw208_8), ((HB.out.cell (World.block_lt_of_cell? w _ hw208_9)).trans hw208_9), ((HB.out.cell (World.block_lt_of_cell? w _ hw208_10)).trans hw208_10), ((HB.out.cell (World.block_lt_of_cell? w _ hw208_11)).trans hw208_11), ((HB.out.cell (World.block_lt_of_cell? w _ hw208_12)).trans hw208_12), ((HB.out.cell (World.block_lt_of_cell? w _ hw208_13)).trans hw208_13), ((HB.out.cell (World.block_lt_of_cell? w _ hw208_14)).trans hw208_14), ((HB.out.cell (World.block_lt_of_cell? w _ hw208_15)).trans hw208_15)⟩ (fun hHeld => ?_); refine with_tabW burnbagref16_Next.tab10 burnbagref16_Next.bits10 (fun HT_ HW_ => ?_)
                            generalize wr.drew = w16 at HO_5 HB hx207_0 hx207_1 hx207_10 hx207_11 hx207_12 hx207_13 hx207_14 hx207_15 hx207_2 hx207_3 hx207_4 hx207_5 hx207_6 hx207_7 hx207_8 hx207_9 hx208_0 hx208_1 hx208_10 hx208_11 hx208_12 hx208_13 hx208_14 hx208_15 hx208_2 hx208_3 hx208_4 hx208_5 hx208_6 hx208_7 hx208_8 hx208_9 hHeld ⊢
                            refine pure_ (i := 0) (N := some 25) (v := ?_) (a' := ?_) #[true, false, false, false, false, false, false, false, false, false, false, false, false, false, false, false, false, false, false, false] rfl rfl (any_of HT_.out (by kernel_rfl)) (fun _ _ _ h => h) (Or.inl ⟨by rfl, ?_⟩) ?_ ?_
                            rotate_left
                            · intro w'
                              go_simp
                              with_reducible rfl
                            rotate_left
                            · simp only [Act.put, List.setIfInBounds_toArray, List.set_cons_zero, List.set_cons_succ, i64_w, i32_w]
                              rfl
                            refine pure_ (i := 1) (N := some 26) (v := ?_) (a' := ?_) #[true, true, false, false, false, false, false, false, false, false, false, false, false, false, false, false, false, false, false, false] rfl rfl (any_of HT_.out (by kernel_rfl)) (fun _ _ _ h => h) (Or.inl ⟨by rfl, ?_⟩) ?_ ?_
                            rotate_left
                            · intro w'
                              go_simp
                              with_reducible rfl
                            rotate_left
                            · simp only [Act.put, List.setIfInBounds_toArray, List.set_cons_zero, List.set_cons_succ, i64_w, i32_w]
                              rfl
                            refine pure_ (i := 2) (N := some 27) (v := ?_) (a' := ?_) #[true, true, true, false, false, false, false, false, false, false, false, false, false, false, false, false, false, false, false, false] rfl rfl (any_of HT_.out (by kernel_rfl)) (fun _ _ _ h => h) (Or.inl ⟨by rfl, ?_⟩) ?_ ?_
                            rotate_left
                            · intro w'
                              go_simp
                              with_reducible rfl
                            rotate_left
                            · simp only [Act.put, List.setIfInBounds_toArray, List.set_cons_zero, List.set_cons_succ, i64_w, i32_w]
                              rfl
                            refine pure_ (i := 3) (N := some 28) (v := ?_) (a' := ?_) #[true, true, true, true, false, false, false, false, false, false, false, false, false, false, false, false, false, false, false, false] rfl rfl (any_of HT_.out (by kernel_rfl)) (fun _ _ _ h => h) (Or.inl ⟨by rfl, ?_⟩) ?_ ?_
                            rotate_left
                            · intro w'
                              go_simp
                              with_reducible rfl
                            rotate_left
                            · simp only [Act.put, List.setIfInBounds_toArray, List.set_cons_zero, List.set_cons_succ, i64_w, i32_w]
                              rfl
                            refine pure_ (i := 4) (N := some 29) (v := ?_) (a' := ?_) #[true, true, true, true, true, false, false, false, false, false, false, false, false, false, false, false, false, false, false, false] rfl rfl (any_of HT_.out (by kernel_rfl)) (fun _ _ _ h => h) (Or.inl ⟨by rfl, ?_⟩) ?_ ?_
                            rotate_left
                            · intro w'
                              go_simp
                              with_reducible rfl
                            rotate_left
                            · simp only [Act.put, List.setIfInBounds_toArray, List.set_cons_zero, List.set_cons_succ, i64_w, i32_w]
                              rfl
                            refine pure_ (i := 5) (N := some 30) (v := ?_) (a' := ?_) #[true, true, true, true, true, true, false, false, false, false, false, false, false, false, false, false, false, false, false, false] rfl rfl (any_of HT_.out (by kernel_rfl)) (fun _ _ _ h => h) (Or.inl ⟨by rfl, ?_⟩) ?_ ?_
                            rotate_left
                            · intro w'
                              go_simp
                              with_reducible rfl
                            rotate_left
                            · simp only [Act.put, List.setIfInBounds_toArray, List.set_cons_zero, List.set_cons_succ, i64_w, i32_w]
                              rfl
                            refine one_ (i := 6) (N := some 31) #[true, true, true, true, true, true, true, false, false, false, false, false, false, false, false, false, false, false, false, false] rfl rfl (one_of HT_.out (by kernel_rfl)) (by decide) (fun K hK => ?_)
                            refine goes_ Tryz.func22 (by kernel_rfl) rfl #[.slice A1 l1.length c1, .int .i64 x8_2] (by rfl) rfl rfl (by (try simp only [List.map_toArray, List.map_cons, List.map_nil]); first | done | rfl | (simp only [List.length_drop, List.length_take]; rfl)) ?_
                            with_reducible refine (burnbagref16_in.calls k2 _ _ l1 x8_2 t206 _ ?side1 ?side2 A9.out).mono ?_
                            (case side1 => repeat (first | exact (Kd.C_below HR1.out HB.out) | (with_reducible refine Kd.C_alloc ?_ _) | (with_reducible refine Kd.C_drewN ?_ _) | (with_reducible refine Kd.C_drew ?_)))
                            (case side2 => exact HC1.out)
                            rintro e w' ⟨rfl, ⟨nd, rfl⟩⟩
                            refine ⟨_, rfl, ?_⟩
                            refine hK.out _ _ ⟨((HB.out.cell (World.block_lt_of_cell? w _ hw207_0)).trans hw207_0), ((HB.out.cell (World.block_lt_of_cell? w _ hw207_1)).trans hw207_1), ((HB.out.cell (World.block_lt_of_cell? w _ hw207_2)).trans hw207_2), ((HB.out.cell (World.block_lt_of_cell? w _ hw207_3)).trans hw207_3), ((HB.out.cell (World.block_lt_of_cell? w _ hw207_4)).trans hw207_4), ((HB.out.cell (World.block_lt_of_cell? w _ hw207_5)).trans hw207_5), ((HB.out.cell (World.block_lt_of_cell? w _ hw207_6)).trans hw207_6), ((HB.out.cell (World.block_lt_of_cell? w _ hw207_7)).trans hw207_7), ((HB.out.cell (World.block_lt_of_cell? w _ hw207_8)).trans hw207_8), ((HB.out.cell (World.block_lt_of_cell? w _ hw207_9)).trans hw207_9), ((HB.out.cell (World.block_lt_of_cell? w _ hw207_10)).trans hw207_10), ((HB.out.cell (World.block_lt_of_cell? w _ hw207_11)).trans hw207_11), ((HB.out.cell (World.block_lt_of_cell? w _ hw207_12)).trans hw207_12), ((HB.out.cell (World.block_lt_of_cell? w _ hw207_13)).trans hw207_13), ((HB.out.cell (World.block_lt_of_cell? w _ hw207_14)).trans hw207_14), ((HB.out.cell (World.block_lt_of_cell? w _ hw207_15)).trans hw207_15), ((HB.out.cell (World.block_lt_of_cell? w _ hw208_0)).trans hw208_0), ((HB.out.cell (World.block_lt_of_cell? w _ hw208_1)).trans hw208_1), ((HB.out.cell (World.block_lt_of_cell? w _ hw208_2)).trans hw208_2), ((HB.out.cell (World.block_lt_of_cell? w _ hw208_3)).trans hw208_3), ((HB.out.cell (World.block_lt_of_cell? w _ hw208_4)).trans hw208_4), ((HB.out.cell (World.block_lt_of_cell? w _ hw208_5)).trans hw208_5), ((HB.out.cell (World.block_lt_of_cell? w _ hw208_6)).trans hw208_6), ((HB.out.cell (World.block_lt_of_cell? w _ hw208_7)).trans hw208_7), ((HB.out.cell (World.block_lt_of_cell? w _ hw208_8)).trans hw208_8), ((HB.out.cell (World.block_lt_of_cell? w _ hw208_9)).trans hw208_9), ((HB.out.cell (World.block_lt_of_cell? w _ hw208_10)).trans hw208_10), ((HB.out.cell (World.block_lt_of_cell? w _ hw208_11)).trans hw208_11), ((HB.out.cell (World.block_lt_of_cell? w _ hw208_12)).trans hw208_12), ((HB.out.cell (World.block_lt_of_cell? w _ hw208_13)).trans hw208_13), ((HB.out.cell (World.block_lt_of_cell? w _ hw208_14)).trans hw208_14), ((HB.out.cell (World.block_lt_of_cell? w _ hw208_15)).trans hw208_15)⟩ (fun hHeld => ?_)
                            clear hK K
                            refine norm_ (a' := ?_) ?_ ?_
                            rotate_left
                            · show Act.put _ (some 31) _ = _
                              simp only [Act.put, List.setIfInBounds_toArray, List.set_cons_zero, List.set_cons_succ, i64_w, i32_w]
                              rfl
                            refine pure_ (i := 7) (N := some 32) (v := ?_) (a' := ?_) #[true, true, true, true, true, true, true, true, false, false, false, false, false, false, false, false, false, false, false, false] rfl rfl (any_of HT_.out (by kernel_rfl)) (fun _ _ _ h => h) (Or.inl ⟨by rfl, ?_⟩) ?_ ?_
                            rotate_left
                            · intro w'
                              go_simp
                              with_reducible rfl
                            rotate_left
                            · simp only [Act.put, List.setIfInBounds_toArray, List.set_cons_zero, List.set_cons_succ, i64_w, i32_w]
                              rfl
                            refine pure_ (i := 8) (N := some 33) (v := ?_) (a' := ?_) #[true, true, true, true, true, true, true, true, true, false, false, false, false, false, false, false, false, false, false, false] rfl rfl (any_of HT_.out (by kernel_rfl)) (fun _ _ _ h => h) (Or.inl ⟨by rfl, ?_⟩) ?_ ?_
                            rotate_left
                            · intro w'
                              go_simp
                              with_reducible rfl
                            rotate_left
                            · simp only [Act.put, List.setIfInBounds_toArray, List.set_cons_zero, List.set_cons_succ, i64_w, i32_w]
                              rfl
                            refine pure_ (i := 9) (N := some 34) (v := ?_) (a' := ?_) #[true, true, true, true, true, true, true, true, true, true, false, false, false, false, false, false, false, false, false, false] rfl rfl (any_of HT_.out (by kernel_rfl)) (fun _ _ _ h => h) (Or.inl ⟨by rfl, ?_⟩) ?_ ?_
                            rotate_left
                            · intro w'
                              go_simp
                              with_reducible rfl
                            rotate_left
                            · simp only [Act.put, List.setIfInBounds_toArray, List.set_cons_zero, List.set_cons_succ, i64_w, i32_w]
                              rfl
                            refine pure_ (i := 10) (N := some 35) (v := ?_) (a' := ?_) #[true, true, true, true, true, true, true, true, true, true, true, false, false, false, false, false, false, false, false, false] rfl rfl (any_of HT_.out (by kernel_rfl)) (fun _ _ _ h => h) (Or.inl ⟨by rfl, ?_⟩) ?_ ?_
                            rotate_left
                            · intro w'
                              go_simp
                              with_reducible rfl
                            rotate_left
                            · simp only [Act.put, List.setIfInBounds_toArray, List.set_cons_zero, List.set_cons_succ, i64_w, i32_w]
                              rfl
                            refine pure_ (i := 11) (N := some 36) (v := ?_) (a' := ?_) #[true, true, true, true, true, true, true, true, true, true, true, true, false, false, false, false, false, false, false, false] rfl rfl (any_of HT_.out (by kernel_rfl)) (fun _ _ _ h => h) (Or.inl ⟨by rfl, ?_⟩) ?_ ?_
                            rotate_left
                            · intro w'
                              go_simp
                              with_reducible rfl
                            rotate_left
                            · simp only [Act.put, List.setIfInBounds_toArray, List.set_cons_zero, List.set_cons_succ, i64_w, i32_w]
                              rfl
                            refine pure_ (i := 12) (N := some 37) (v := ?_) (a' := ?_) #[true, true, true, true, true, true, true, true, true, true, true, true, true, false, false, false, false, false, false, false] rfl rfl (any_of HT_.out (by kernel_rfl)) (fun _ _ _ h => h) (Or.inl ⟨by rfl, ?_⟩) ?_ ?_
                            rotate_left
                            · intro w'
                              go_simp
                              with_reducible rfl
                            rotate_left
                            · simp only [Act.put, List.setIfInBounds_toArray, List.set_cons_zero, List.set_cons_succ, i64_w, i32_w]
                              rfl
                            refine pure_ (i := 14) (N := some 39) (v := ?_) (a' := ?_) #[true, true, true, true, true, true, true, true, true, true, true, true, true, false, true, false, false, false, false, false] rfl rfl (any_of HT_.out (by kernel_rfl)) (fun _ _ _ h => h) (Or.inl ⟨by rfl, ?_⟩) ?_ ?_
                            rotate_left
                            · intro w'
                              go_simp
                              with_reducible rfl
                            rotate_left
                            · simp only [Act.put, List.setIfInBounds_toArray, List.set_cons_zero, List.set_cons_succ, i64_w, i32_w]
                              rfl
                            refine pure_ (i := 15) (N := some 40) (v := ?_) (a' := ?_) #[true, true, true, true, true, true, true, true, true, true, true, true, true, false, true, true, false, false, false, false] rfl rfl (any_of HT_.out (by kernel_rfl)) (fun _ _ _ h => h) (Or.inl ⟨by rfl, ?_⟩) ?_ ?_
                            rotate_left
                            · intro w'
                              go_simp
                              with_reducible rfl
                            rotate_left
                            · simp only [Act.put, List.setIfInBounds_toArray, List.set_cons_zero, List.set_cons_succ, i64_w, i32_w]
                              rfl
                            refine pure_ (i := 16) (N := some 41) (v := ?_) (a' := ?_) #[true, true, true, true, true, true, true, true, true, true, true, true, true, false, true, true, true, false, false, false] rfl rfl (any_of HT_.out (by kernel_rfl)) (fun _ _ _ h => h) (Or.inl ⟨by rfl, ?_⟩) ?_ ?_
                            rotate_left
                            · intro w'
                              go_simp
                              with_reducible rfl
                            rotate_left
                            · simp only [Act.put, List.setIfInBounds_toArray, List.set_cons_zero, List.set_cons_succ, i64_w, i32_w]
                              rfl
                            refine take_ (i := 13) (N := some 38) (v := ?_) (a' := ?_) #[true, true, true, true, true, true, true, true, true, true, true, true, true, true, true, true, true, false, false, false] rfl rfl (take_ofW HT_.out HW_.out (by kernel_rfl)) (fun _ _ _ h => h) (Or.inl ⟨by rfl, ?_⟩) hHeld ?_ ?_
                            rotate_left
                            · rintro w' ⟨s0, s1, s2, s3, s4, s5, s6, s7, s8, s9, s10, s11, s12, s13, s14, s15, s16, s17, s18, s19, s20, s21, s22, s23, s24, s25, s26, s27, s28, s29, s30, s31⟩
                              go_simp
                              with_reducible rfl
                            rotate_left
                            · simp only [Act.put, List.setIfInBounds_toArray, List.set_cons_zero, List.set_cons_succ, i64_w, i32_w]
                              rfl
                            refine take_ (i := 17) (N := some 42) (v := ?_) (a' := ?_) #[true, true, true, true, true, true, true, true, true, true, true, true, true, true, true, true, true, true, false, false] rfl rfl (take_ofW HT_.out HW_.out (by kernel_rfl)) (fun _ _ _ h => h) (Or.inl ⟨by rfl, ?_⟩) hHeld ?_ ?_
                            rotate_left
                            · rintro w' ⟨s0, s1, s2, s3, s4, s5, s6, s7, s8, s9, s10, s11, s12, s13, s14, s15, s16, s17, s18, s19, s20, s21, s22, s23, s24, s25, s26, s27, s28, s29, s30, s31⟩
                              go_simp
                              with_reducible rfl
                            rotate_left
                            · simp only [Act.put, List.setIfInBounds_toArray, List.set_cons_zero, List.set_cons_succ, i64_w, i32_w]
                              rfl
                            refine one_ (i := 18) (N := some 43) #[true, true, true, true, true, true, true, true, true, true, true, true, true, true, true, true, true, true, true, false] rfl rfl (one_of HT_.out (by kernel_rfl)) (by decide) (fun K hK => ?_)
                            refine goes_ Tryz.func23 (by kernel_rfl) rfl #[.agg #[.int .i64 ((rd_T38 l0 x8_2).f0), .int .i64 ((rd_T38 l0 x8_2).f1.f0), .int .i64 ((rd_T38 l0 x8_2).f1.f1), .int .i64 ((rd_T38 l0 x8_2).f1.f2), .int .u64 ((rd_T38 l0 x8_2).f1.f3.f0), .int .u64 ((rd_T38 l0 x8_2).f1.f3.f1), .int .u64 ((rd_T38 l0 x8_2).f1.f4), .int .i64 ((rd_T38 l0 x8_2).f1.f5), .int .i64 ((rd_T38 l0 x8_2).f2.f0), .int .u64 ((rd_T38 l0 x8_2).f2.f1.f0), .int .u64 ((rd_T38 l0 x8_2).f2.f1.f1), .int .u64 ((rd_T38 l0 x8_2).f2.f2), .int .i64 ((rd_T38 l0 x8_2).f2.f3), .int .i64 ((rd_T38 l0 x8_2).f2.f4), .int .i64 ((rd_T38 l0 x8_2).f3), .int .i64 ((rd_T38 l0 x8_2).f4)], .agg #[.int .i64 ((rd_T38 l0 x6_1).f0), .int .i64 ((rd_T38 l0 x6_1).f1.f0), .int .i64 ((rd_T38 l0 x6_1).f1.f1), .int .i64 ((rd_T38 l0 x6_1).f1.f2), .int .u64 ((rd_T38 l0 x6_1).f1.f3.f0), .int .u64 ((rd_T38 l0 x6_1).f1.f3.f1), .int .u64 ((rd_T38 l0 x6_1).f1.f4), .int .i64 ((rd_T38 l0 x6_1).f1.f5), .int .i64 ((rd_T38 l0 x6_1).f2.f0), .int .u64 ((rd_T38 l0 x6_1).f2.f1.f0), .int .u64 ((rd_T38 l0 x6_1).f2.f1.f1), .int .u64 ((rd_T38 l0 x6_1).f2.f2), .int .i64 ((rd_T38 l0 x6_1).f2.f3), .int .i64 ((rd_T38 l0 x6_1).f2.f4), .int .i64 ((rd_T38 l0 x6_1).f3), .int .i64 ((rd_T38 l0 x6_1).f4)]] (by rfl) rfl rfl (by (try simp only [List.map_toArray, List.map_cons, List.map_nil]); first | done | rfl | (simp only [List.length_drop, List.length_take]; rfl)) ?_
                            with_reducible refine (burnbagref14_Ahead.calls ((rd_T38 l0 x8_2).f0) ((rd_T38 l0 x8_2).f1.f0) ((rd_T38 l0 x8_2).f1.f1) ((rd_T38 l0 x8_2).f1.f2) ((rd_T38 l0 x8_2).f1.f3.f0) ((rd_T38 l0 x8_2).f1.f3.f1) ((rd_T38 l0 x8_2).f1.f4) ((rd_T38 l0 x8_2).f1.f5) ((rd_T38 l0 x8_2).f2.f0) ((rd_T38 l0 x8_2).f2.f1.f0) ((rd_T38 l0 x8_2).f2.f1.f1) ((rd_T38 l0 x8_2).f2.f2) ((rd_T38 l0 x8_2).f2.f3) ((rd_T38 l0 x8_2).f2.f4) ((rd_T38 l0 x8_2).f3) ((rd_T38 l0 x8_2).f4) ((rd_T38 l0 x6_1).f0) ((rd_T38 l0 x6_1).f1.f0) ((rd_T38 l0 x6_1).f1.f1) ((rd_T38 l0 x6_1).f1.f2) ((rd_T38 l0 x6_1).f1.f3.f0) ((rd_T38 l0 x6_1).f1.f3.f1) ((rd_T38 l0 x6_1).f1.f4) ((rd_T38 l0 x6_1).f1.f5) ((rd_T38 l0 x6_1).f2.f0) ((rd_T38 l0 x6_1).f2.f1.f0) ((rd_T38 l0 x6_1).f2.f1.f1) ((rd_T38 l0 x6_1).f2.f2) ((rd_T38 l0 x6_1).f2.f3) ((rd_T38 l0 x6_1).f2.f4) ((rd_T38 l0 x6_1).f3) ((rd_T38 l0 x6_1).f4) true _ A14.out).mono ?_
                            rintro e w17 ⟨rfl, hb⟩
                            refine ⟨_, rfl, ?_⟩
                            have n0_ := Aside0.mk (Kd.R_below (by (with_reducible repeat (first | apply Kd.R_alloc | apply Kd.R_drewN | apply Kd.R_drew)); exact HO_5.out) hb)
                            have n1_ := Aside0.mk (below_step (by repeat (first | (with_reducible first | exact HB.out | apply below_alloc | apply pw_below_drewN | apply below_drew1) | exact HB.out)) hb)
                            clear HO_5
                            clear HB
                            have HO_5 := n0_
                            have HB := n1_
                            clear n0_ n1_
                            (try clear hb)
                            (try clear hb2)
                            (try clear hk)
                            (try clear hi)
                            refine hK.out _ _ ⟨((HB.out.cell (World.block_lt_of_cell? w _ hw207_0)).trans hw207_0), ((HB.out.cell (World.block_lt_of_cell? w _ hw207_1)).trans hw207_1), ((HB.out.cell (World.block_lt_of_cell? w _ hw207_2)).trans hw207_2), ((HB.out.cell (World.block_lt_of_cell? w _ hw207_3)).trans hw207_3), ((HB.out.cell (World.block_lt_of_cell? w _ hw207_4)).trans hw207_4), ((HB.out.cell (World.block_lt_of_cell? w _ hw207_5)).trans hw207_5), ((HB.out.cell (World.block_lt_of_cell? w _ hw207_6)).trans hw207_6), ((HB.out.cell (World.block_lt_of_cell? w _ hw207_7)).trans hw207_7), ((HB.out.cell (World.block_lt_of_cell? w _ hw207_8)).trans hw207_8), ((HB.out.cell (World.block_lt_of_cell? w _ hw207_9)).trans hw207_9), ((HB.out.cell (World.block_lt_of_cell? w _ hw207_10)).trans hw207_10), ((HB.out.cell (World.block_lt_of_cell? w _ hw207_11)).trans hw207_11), ((HB.out.cell (World.block_lt_of_cell? w _ hw207_12)).trans hw207_12), ((HB.out.cell (World.block_lt_of_cell? w _ hw207_13)).trans hw207_13), ((HB.out.cell (World.block_lt_of_cell? w _ hw207_14)).trans hw207_14), ((HB.out.cell (World.block_lt_of_cell? w _ hw207_15)).trans hw207_15), ((HB.out.cell (World.block_lt_of_cell? w _ hw208_0)).trans hw208_0), ((HB.out.cell (World.block_lt_of_cell? w _ hw208_1)).trans hw208_1), ((HB.out.cell (World.block_lt_of_cell? w _ hw208_2)).trans hw208_2), ((HB.out.cell (World.block_lt_of_cell? w _ hw208_3)).trans hw208_3), ((HB.out.cell (World.block_lt_of_cell? w _ hw208_4)).trans hw208_4), ((HB.out.cell (World.block_lt_of_cell? w _ hw208_5)).trans hw208_5), ((HB.out.cell (World.block_lt_of_cell? w _ hw208_6)).trans hw208_6), ((HB.out.cell (World.block_lt_of_cell? w _ hw208_7)).trans hw208_7), ((HB.out.cell (World.block_lt_of_cell? w _ hw208_8)).trans hw208_8), ((HB.out.cell (World.block_lt_of_cell? w _ hw208_9)).trans hw208_9), ((HB.out.cell (World.block_lt_of_cell? w _ hw208_10)).trans hw208_10), ((HB.out.cell (World.block_lt_of_cell? w _ hw208_11)).trans hw208_11), ((HB.out.cell (World.block_lt_of_cell? w _ hw208_12)).trans hw208_12), ((HB.out.cell (World.block_lt_of_cell? w _ hw208_13)).trans hw208_13), ((HB.out.cell (World.block_lt_of_cell? w _ hw208_14)).trans hw208_14), ((HB.out.cell (World.block_lt_of_cell? w _ hw208_15)).trans hw208_15)⟩ (fun hHeld => ?_)
                            clear hK K
                            refine norm_ (a' := ?_) ?_ ?_
                            rotate_left
                            · show Act.put _ (some 43) _ = _
                              simp only [Act.put, List.setIfInBounds_toArray, List.set_cons_zero, List.set_cons_succ, i64_w, i32_w]
                              rfl
                            refine pure_ (i := 19) (N := some 44) (v := ?_) (a' := ?_) #[true, true, true, true, true, true, true, true, true, true, true, true, true, true, true, true, true, true, true, true] rfl rfl (any_of HT_.out (by kernel_rfl)) (fun _ _ _ h => h) (Or.inl ⟨by rfl, ?_⟩) ?_ ?_
                            rotate_left
                            · intro w'
                              go_simp
                              with_reducible rfl
                            rotate_left
                            · simp only [Act.put, List.setIfInBounds_toArray, List.set_cons_zero, List.set_cons_succ, i64_w, i32_w]
                              rfl
                            refine done_ (done_of HT_.out (by kernel_rfl)) ?_
                            try go_wp2
                            go_roundg k2
                            case measure => have := HK1.out; have := HK2.out; omega
                            case rel => exact ⟨(false), (wrap64 (x8_2 + 1)), (by first | rfl | (simp; done) | (simp [*]; done)), (by first | rfl | (simp; done) | (simp [*]; done)), H', ⟨by have := HK1.out; have := HK2.out; omega⟩, ⟨by (with_reducible repeat (first | apply Kd.R_alloc | apply Kd.R_drewN | apply Kd.R_drew)); exact HO_5.out⟩, ⟨by repeat (first | (with_reducible first | exact HB.out | apply below_alloc | apply pw_below_drewN | apply below_drew1) | exact HB.out)⟩⟩
                          · replace c15 := Bool.eq_false_iff.mpr c15
                            subst c15
                            have H1 : (burnbagref16_Next.l1 k2 l0 l1 x5_1 x6_1 x7_2 (wrap64 (x8_2 + 1))) = some r := by rw [if_neg (show ¬ (false = true) by decide)] at H; exact H
                            clear H
                            have H := H1
                            clear H1
                            have H' := Aside0.mk H
                            clear H
                            try go_wp2
                            have n0_ := Aside0.mk (Kd.R_drew HO_5.out)
                            have n1_ := Aside0.mk (below_drew1 HB.out)
                            clear HO_5
                            clear HB
                            have HO_5 := n0_
                            have HB := n1_
                            clear n0_ n1_
                            have p207 : 0 ≤ (x8_2 : Int) := of_decide_eq_true (by first | (with_reducible assumption) | assumption)
                            have q207 : x8_2 < (l0.length : Int) := of_decide_eq_true (by first | (with_reducible assumption) | assumption)
                            obtain ⟨ad207, e207, hx207_0, hx207_1, hx207_2, hx207_3, hx207_4, hx207_5, hx207_6, hx207_7, hx207_8, hx207_9, hx207_10, hx207_11, hx207_12, hx207_13, hx207_14, hx207_15⟩ := at_T38 HR0.out x8_2 p207 q207
                            have hw207_15 := hx207_15
                            have hw207_14 := hx207_14
                            have hw207_13 := hx207_13
                            have hw207_12 := hx207_12
                            have hw207_11 := hx207_11
                            have hw207_10 := hx207_10
                            have hw207_9 := hx207_9
                            have hw207_8 := hx207_8
                            have hw207_7 := hx207_7
                            have hw207_6 := hx207_6
                            have hw207_5 := hx207_5
                            have hw207_4 := hx207_4
                            have hw207_3 := hx207_3
                            have hw207_2 := hx207_2
                            have hw207_1 := hx207_1
                            have hw207_0 := hx207_0
                            cases e207
                            replace hx207_0 := (HB.out.cell (World.block_lt_of_cell? w _ hx207_0)).trans hx207_0
                            replace hx207_1 := (HB.out.cell (World.block_lt_of_cell? w _ hx207_1)).trans hx207_1
                            replace hx207_2 := (HB.out.cell (World.block_lt_of_cell? w _ hx207_2)).trans hx207_2
                            replace hx207_3 := (HB.out.cell (World.block_lt_of_cell? w _ hx207_3)).trans hx207_3
                            replace hx207_4 := (HB.out.cell (World.block_lt_of_cell? w _ hx207_4)).trans hx207_4
                            replace hx207_5 := (HB.out.cell (World.block_lt_of_cell? w _ hx207_5)).trans hx207_5
                            replace hx207_6 := (HB.out.cell (World.block_lt_of_cell? w _ hx207_6)).trans hx207_6
                            replace hx207_7 := (HB.out.cell (World.block_lt_of_cell? w _ hx207_7)).trans hx207_7
                            replace hx207_8 := (HB.out.cell (World.block_lt_of_cell? w _ hx207_8)).trans hx207_8
                            replace hx207_9 := (HB.out.cell (World.block_lt_of_cell? w _ hx207_9)).trans hx207_9
                            replace hx207_10 := (HB.out.cell (World.block_lt_of_cell? w _ hx207_10)).trans hx207_10
                            replace hx207_11 := (HB.out.cell (World.block_lt_of_cell? w _ hx207_11)).trans hx207_11
                            replace hx207_12 := (HB.out.cell (World.block_lt_of_cell? w _ hx207_12)).trans hx207_12
                            replace hx207_13 := (HB.out.cell (World.block_lt_of_cell? w _ hx207_13)).trans hx207_13
                            replace hx207_14 := (HB.out.cell (World.block_lt_of_cell? w _ hx207_14)).trans hx207_14
                            replace hx207_15 := (HB.out.cell (World.block_lt_of_cell? w _ hx207_15)).trans hx207_15
                            replace p207 := eq_true p207
                            replace q207 := eq_true q207
                            have p208 : 0 ≤ (x6_1 : Int) := of_decide_eq_true (by first | (with_reducible assumption) | assumption)
                            have q208 : x6_1 < (l0.length : Int) := of_decide_eq_true (by first | (with_reducible assumption) | assumption)
                            obtain ⟨ad208, e208, hx208_0, hx208_1, hx208_2, hx208_3, hx208_4, hx208_5, hx208_6, hx208_7, hx208_8, hx208_9, hx208_10, hx208_11, hx208_12, hx208_13, hx208_14, hx208_15⟩ := at_T38 HR0.out x6_1 p208 q208
                            have hw208_15 := hx208_15
                            have hw208_14 := hx208_14
                            have hw208_13 := hx208_13
                            have hw208_12 := hx208_12
                            have hw208_11 := hx208_11
                            have hw208_10 := hx208_10
                            have hw208_9 := hx208_9
                            have hw208_8 := hx208_8
                            have hw208_7 := hx208_7
                            have hw208_6 := hx208_6
                            have hw208_5 := hx208_5
                            have hw208_4 := hx208_4
                            have hw208_3 := hx208_3
                            have hw208_2 := hx208_2
                            have hw208_1 := hx208_1
                            have hw208_0 := hx208_0
                            obtain rfl : ad207 = ad208 := (by injection e208)
                            replace hx208_0 := (HB.out.cell (World.block_lt_of_cell? w _ hx208_0)).trans hx208_0
                            replace hx208_1 := (HB.out.cell (World.block_lt_of_cell? w _ hx208_1)).trans hx208_1
                            replace hx208_2 := (HB.out.cell (World.block_lt_of_cell? w _ hx208_2)).trans hx208_2
                            replace hx208_3 := (HB.out.cell (World.block_lt_of_cell? w _ hx208_3)).trans hx208_3
                            replace hx208_4 := (HB.out.cell (World.block_lt_of_cell? w _ hx208_4)).trans hx208_4
                            replace hx208_5 := (HB.out.cell (World.block_lt_of_cell? w _ hx208_5)).trans hx208_5
                            replace hx208_6 := (HB.out.cell (World.block_lt_of_cell? w _ hx208_6)).trans hx208_6
                            replace hx208_7 := (HB.out.cell (World.block_lt_of_cell? w _ hx208_7)).trans hx208_7
                            replace hx208_8 := (HB.out.cell (World.block_lt_of_cell? w _ hx208_8)).trans hx208_8
                            replace hx208_9 := (HB.out.cell (World.block_lt_of_cell? w _ hx208_9)).trans hx208_9
                            replace hx208_10 := (HB.out.cell (World.block_lt_of_cell? w _ hx208_10)).trans hx208_10
                            replace hx208_11 := (HB.out.cell (World.block_lt_of_cell? w _ hx208_11)).trans hx208_11
                            replace hx208_12 := (HB.out.cell (World.block_lt_of_cell? w _ hx208_12)).trans hx208_12
                            replace hx208_13 := (HB.out.cell (World.block_lt_of_cell? w _ hx208_13)).trans hx208_13
                            replace hx208_14 := (HB.out.cell (World.block_lt_of_cell? w _ hx208_14)).trans hx208_14
                            replace hx208_15 := (HB.out.cell (World.block_lt_of_cell? w _ hx208_15)).trans hx208_15
                            replace p208 := eq_true p208
                            replace q208 := eq_true q208
                            refine start_ (n := 20) (S := fun w' => w'.cell? (ad207.add ((x8_2).toNat * 16)) = some (.int .i64 ((rd_T38 l0 x8_2).f0)) ∧ w'.cell? ⟨(ad207.add ((x8_2).toNat * 16)).block, (ad207.add ((x8_2).toNat * 16)).off + 1, none⟩ = some (.int .i64 ((rd_T38 l0 x8_2).f1.f0)) ∧ w'.cell? ⟨(ad207.add ((x8_2).toNat * 16)).block, (ad207.add ((x8_2).toNat * 16)).off + 2, none⟩ = some (.int .i64 ((rd_T38 l0 x8_2).f1.f1)) ∧ w'.cell? ⟨(ad207.add ((x8_2).toNat * 16)).block, (ad207.add ((x8_2).toNat * 16)).off + 3, none⟩ = some (.int .i64 ((rd_T38 l0 x8_2).f1.f2)) ∧ w'.cell? ⟨(ad207.add ((x8_2).toNat * 16)).block, (ad207.add ((x8_2).toNat * 16)).off + 4, none⟩ = some (.int .u64 ((rd_T38 l0 x8_2).f1.f3.f0)) ∧ w'.cell? ⟨(ad207.add ((x8_2).toNat * 16)).block, (ad207.add ((x8_2).toNat * 16)).off + 5, none⟩ = some (.int .u64 ((rd_T38 l0 x8_2).f1.f3.f1)) ∧ w'.cell? ⟨(ad207.add ((x8_2).toNat * 16)).block, (ad207.add ((x8_2).toNat * 16)).off + 6, none⟩ = some (.int .u64 ((rd_T38 l0 x8_2).f1.f4)) ∧ w'.cell? ⟨(ad207.add ((x8_2).toNat * 16)).block, (ad207.add ((x8_2).toNat * 16)).off + 7, none⟩ = some (.int .i64 ((rd_T38 l0 x8_2).f1.f5)) ∧ w'.cell? ⟨(ad207.add ((x8_2).toNat * 16)).block, (ad207.add ((x8_2).toNat * 16)).off + 8, none⟩ = some (.int .i64 ((rd_T38 l0 x8_2).f2.f0)) ∧ w'.cell? ⟨(ad207.add ((x8_2).toNat * 16)).block, (ad207.add ((x8_2).toNat * 16)).off + 9, none⟩ = some (.int .u64 ((rd_T38 l0 x8_2).f2.f1.f0)) ∧ w'.cell? ⟨(ad207.add ((x8_2).toNat * 16)).block, (ad207.add ((x8_2).toNat * 16)).off + 10, none⟩ = some (.int .u64 ((rd_T38 l0 x8_2).f2.f1.f1)) ∧ w'.cell? ⟨(ad207.add ((x8_2).toNat * 16)).block, (ad207.add ((x8_2).toNat * 16)).off + 11, none⟩ = some (.int .u64 ((rd_T38 l0 x8_2).f2.f2)) ∧ w'.cell? ⟨(ad207.add ((x8_2).toNat * 16)).block, (ad207.add ((x8_2).toNat * 16)).off + 12, none⟩ = some (.int .i64 ((rd_T38 l0 x8_2).f2.f3)) ∧ w'.cell? ⟨(ad207.add ((x8_2).toNat * 16)).block, (ad207.add ((x8_2).toNat * 16)).off + 13, none⟩ = some (.int .i64 ((rd_T38 l0 x8_2).f2.f4)) ∧ w'.cell? ⟨(ad207.add ((x8_2).toNat * 16)).block, (ad207.add ((x8_2).toNat * 16)).off + 14, none⟩ = some (.int .i64 ((rd_T38 l0 x8_2).f3)) ∧ w'.cell? ⟨(ad207.add ((x8_2).toNat * 16)).block, (ad207.add ((x8_2).toNat * 16)).off + 15, none⟩ = some (.int .i64 ((rd_T38 l0 x8_2).f4)) ∧ w'.cell? (ad207.add ((x6_1).toNat * 16)) = some (.int .i64 ((rd_T38 l0 x6_1).f0)) ∧ w'.cell? ⟨(ad207.add ((x6_1).toNat * 16)).block, (ad207.add ((x6_1).toNat * 16)).off + 1, none⟩ = some (.int .i64 ((rd_T38 l0 x6_1).f1.f0)) ∧ w'.cell? ⟨(ad207.add ((x6_1).toNat * 16)).block, (ad207.add ((x6_1).toNat * 16)).off + 2, none⟩ = some (.int .i64 ((rd_T38 l0 x6_1).f1.f1)) ∧ w'.cell? ⟨(ad207.add ((x6_1).toNat * 16)).block, (ad207.add ((x6_1).toNat * 16)).off + 3, none⟩ = some (.int .i64 ((rd_T38 l0 x6_1).f1.f2)) ∧ w'.cell? ⟨(ad207.add ((x6_1).toNat * 16)).block, (ad207.add ((x6_1).toNat * 16)).off + 4, none⟩ = some (.int .u64 ((rd_T38 l0 x6_1).f1.f3.f0)) ∧ w'.cell? ⟨(ad207.add ((x6_1).toNat * 16)).block, (ad207.add ((x6_1).toNat * 16)).off + 5, none⟩ = some (.int .u64 ((rd_T38 l0 x6_1).f1.f3.f1)) ∧ w'.cell? ⟨(ad207.add ((x6_1).toNat * 16)).block, (ad207.add ((x6_1).toNat * 16)).off + 6, none⟩ = some (.int .u64 ((rd_T38 l0 x6_1).f1.f4)) ∧ w'.cell? ⟨(ad207.add ((x6_1).toNat * 16)).block, (ad207.add ((x6_1).toNat * 16)).off + 7, none⟩ = some (.int .i64 ((rd_T38 l0 x6_1).f1.f5)) ∧ w'.cell? ⟨(ad207.add ((x6_1).toNat * 16)).block, (ad207.add ((x6_1).toNat * 16)).off + 8, none⟩ = some (.int .i64 ((rd_T38 l0 x6_1).f2.f0)) ∧ w'.cell? ⟨(ad207.add ((x6_1).toNat * 16)).block, (ad207.add ((x6_1).toNat * 16)).off + 9, none⟩ = some (.int .u64 ((rd_T38 l0 x6_1).f2.f1.f0)) ∧ w'.cell? ⟨(ad207.add ((x6_1).toNat * 16)).block, (ad207.add ((x6_1).toNat * 16)).off + 10, none⟩ = some (.int .u64 ((rd_T38 l0 x6_1).f2.f1.f1)) ∧ w'.cell? ⟨(ad207.add ((x6_1).toNat * 16)).block, (ad207.add ((x6_1).toNat * 16)).off + 11, none⟩ = some (.int .u64 ((rd_T38 l0 x6_1).f2.f2)) ∧ w'.cell? ⟨(ad207.add ((x6_1).toNat * 16)).block, (ad207.add ((x6_1).toNat * 16)).off + 12, none⟩ = some (.int .i64 ((rd_T38 l0 x6_1).f2.f3)) ∧ w'.cell? ⟨(ad207.add ((x6_1).toNat * 16)).block, (ad207.add ((x6_1).toNat * 16)).off + 13, none⟩ = some (.int .i64 ((rd_T38 l0 x6_1).f2.f4)) ∧ w'.cell? ⟨(ad207.add ((x6_1).toNat * 16)).block, (ad207.add ((x6_1).toNat * 16)).off + 14, none⟩ = some (.int .i64 ((rd_T38 l0 x6_1).f3)) ∧ w'.cell? ⟨(ad207.add ((x6_1).toNat * 16)).block, (ad207.add ((x6_1).toNat * 16)).off + 15, none⟩ = some (.int .i64 ((rd_T38 l0 x6_1).f4))) (ds := []) #[false, false, false, false, false, false, false, false, false, false, false, false, false, false, false, false, false, false, false, false] (by kernel_rfl) rfl rfl ⟨((HB.out.cell (World.block_lt_of_cell? w _ hw207_0)).trans hw207_0), ((HB.out.cell (World.block_lt_of_cell? w _ hw207_1)).trans hw207_1), ((HB.out.cell (World.block_lt_of_cell? w _ hw207_2)).trans hw207_2), ((HB.out.cell (World.block_lt_of_cell? w _ hw207_3)).trans hw207_3), ((HB.out.cell (World.block_lt_of_cell? w _ hw207_4)).trans hw207_4), ((HB.out.cell (World.block_lt_of_cell? w _ hw207_5)).trans hw207_5), ((HB.out.cell (World.block_lt_of_cell? w _ hw207_6)).trans hw207_6), ((HB.out.cell (World.block_lt_of_cell? w _ hw207_7)).trans hw207_7), ((HB.out.cell (World.block_lt_of_cell? w _ hw207_8)).trans hw207_8), ((HB.out.cell (World.block_lt_of_cell? w _ hw207_9)).trans hw207_9), ((HB.out.cell (World.block_lt_of_cell? w _ hw207_10)).trans hw207_10), ((HB.out.cell (World.block_lt_of_cell? w _ hw207_11)).trans hw207_11), ((HB.out.cell (World.block_lt_of_cell? w _ hw207_12)).trans hw207_12), ((HB.out.cell (World.block_lt_of_cell? w _ hw207_13)).trans hw207_13), ((HB.out.cell (World.block_lt_of_cell? w _ hw207_14)).trans hw207_14), ((HB.out.cell (World.block_lt_of_cell? w _ hw207_15)).trans hw207_15), ((HB.out.cell (World.block_lt_of_cell? w _ hw208_0)).trans hw208_0), ((HB.out.cell (World.block_lt_of_cell? w _ hw208_1)).trans hw208_1), ((HB.out.cell (World.block_lt_of_cell? w _ hw208_2)).trans hw208_2), ((HB.out.cell (World.block_lt_of_cell? w _ hw208_3)).trans hw208_3), ((HB.out.cell (World.block_lt_of_cell? w _ hw208_4)).trans hw208_4), ((HB.out.cell (World.block_lt_of_cell? w _ hw208_5)).trans hw208_5), ((HB.out.cell (World.block_lt_of_cell? w _ hw208_6)).trans hw208_6), ((HB.out.cell (World.block_lt_of_cell? w _ hw208_7)).trans hw208_7), ((HB.out.cell (World.block_lt_of_cell? w _ hw208_8)).trans hw208_8), ((HB.out.cell (World.block_lt_of_cell? w _ hw208_9)).trans hw208_9), ((HB.out.cell (World.block_lt_of_cell? w _ hw208_10)).trans hw208_10), ((HB.out.cell (World.block_lt_of_cell? w _ hw208_11)).trans hw208_11), ((HB.out.cell (World.block_lt_of_cell? w _ hw208_12)).trans hw208_12), ((HB.out.cell (World.block_lt_of_cell? w _ hw208_13)).trans hw208_13), ((HB.out.cell (World.block_lt_of_cell? w _ hw208_14)).trans hw208_14), ((HB.out.cell (World.block_lt_of_cell? w _ hw208_15)).trans hw208_15)⟩ (fun hHeld => ?_); refine with_tabW burnbagref16_Next.tab10 burnbagref16_Next.bits10 (fun HT_ HW_ => ?_)
                            generalize wr.drew = w18 at HO_5 HB hx207_0 hx207_1 hx207_10 hx207_11 hx207_12 hx207_13 hx207_14 hx207_15 hx207_2 hx207_3 hx207_4 hx207_5 hx207_6 hx207_7 hx207_8 hx207_9 hx208_0 hx208_1 hx208_10 hx208_11 hx208_12 hx208_13 hx208_14 hx208_15 hx208_2 hx208_3 hx208_4 hx208_5 hx208_6 hx208_7 hx208_8 hx208_9 hHeld ⊢
                            refine pure_ (i := 0) (N := some 25) (v := ?_) (a' := ?_) #[true, false, false, false, false, false, false, false, false, false, false, false, false, false, false, false, false, false, false, false] rfl rfl (any_of HT_.out (by kernel_rfl)) (fun _ _ _ h => h) (Or.inl ⟨by rfl, ?_⟩) ?_ ?_
                            rotate_left
                            · intro w'
                              go_simp
                              with_reducible rfl
                            rotate_left
                            · simp only [Act.put, List.setIfInBounds_toArray, List.set_cons_zero, List.set_cons_succ, i64_w, i32_w]
                              rfl
                            refine pure_ (i := 1) (N := some 26) (v := ?_) (a' := ?_) #[true, true, false, false, false, false, false, false, false, false, false, false, false, false, false, false, false, false, false, false] rfl rfl (any_of HT_.out (by kernel_rfl)) (fun _ _ _ h => h) (Or.inl ⟨by rfl, ?_⟩) ?_ ?_
                            rotate_left
                            · intro w'
                              go_simp
                              with_reducible rfl
                            rotate_left
                            · simp only [Act.put, List.setIfInBounds_toArray, List.set_cons_zero, List.set_cons_succ, i64_w, i32_w]
                              rfl
                            refine pure_ (i := 2) (N := some 27) (v := ?_) (a' := ?_) #[true, true, true, false, false, false, false, false, false, false, false, false, false, false, false, false, false, false, false, false] rfl rfl (any_of HT_.out (by kernel_rfl)) (fun _ _ _ h => h) (Or.inl ⟨by rfl, ?_⟩) ?_ ?_
                            rotate_left
                            · intro w'
                              go_simp
                              with_reducible rfl
                            rotate_left
                            · simp only [Act.put, List.setIfInBounds_toArray, List.set_cons_zero, List.set_cons_succ, i64_w, i32_w]
                              rfl
                            refine pure_ (i := 3) (N := some 28) (v := ?_) (a' := ?_) #[true, true, true, true, false, false, false, false, false, false, false, false, false, false, false, false, false, false, false, false] rfl rfl (any_of HT_.out (by kernel_rfl)) (fun _ _ _ h => h) (Or.inl ⟨by rfl, ?_⟩) ?_ ?_
                            rotate_left
                            · intro w'
                              go_simp
                              with_reducible rfl
                            rotate_left
                            · simp only [Act.put, List.setIfInBounds_toArray, List.set_cons_zero, List.set_cons_succ, i64_w, i32_w]
                              rfl
                            refine pure_ (i := 4) (N := some 29) (v := ?_) (a' := ?_) #[true, true, true, true, true, false, false, false, false, false, false, false, false, false, false, false, false, false, false, false] rfl rfl (any_of HT_.out (by kernel_rfl)) (fun _ _ _ h => h) (Or.inl ⟨by rfl, ?_⟩) ?_ ?_
                            rotate_left
                            · intro w'
                              go_simp
                              with_reducible rfl
                            rotate_left
                            · simp only [Act.put, List.setIfInBounds_toArray, List.set_cons_zero, List.set_cons_succ, i64_w, i32_w]
                              rfl
                            refine pure_ (i := 5) (N := some 30) (v := ?_) (a' := ?_) #[true, true, true, true, true, true, false, false, false, false, false, false, false, false, false, false, false, false, false, false] rfl rfl (any_of HT_.out (by kernel_rfl)) (fun _ _ _ h => h) (Or.inl ⟨by rfl, ?_⟩) ?_ ?_
                            rotate_left
                            · intro w'
                              go_simp
                              with_reducible rfl
                            rotate_left
                            · simp only [Act.put, List.setIfInBounds_toArray, List.set_cons_zero, List.set_cons_succ, i64_w, i32_w]
                              rfl
                            refine one_ (i := 6) (N := some 31) #[true, true, true, true, true, true, true, false, false, false, false, false, false, false, false, false, false, false, false, false] rfl rfl (one_of HT_.out (by kernel_rfl)) (by decide) (fun K hK => ?_)
                            refine goes_ Tryz.func22 (by kernel_rfl) rfl #[.slice A1 l1.length c1, .int .i64 x8_2] (by rfl) rfl rfl (by (try simp only [List.map_toArray, List.map_cons, List.map_nil]); first | done | rfl | (simp only [List.length_drop, List.length_take]; rfl)) ?_
                            with_reducible refine (burnbagref16_in.calls k2 _ _ l1 x8_2 t206 _ ?side1 ?side2 A9.out).mono ?_
                            (case side1 => repeat (first | exact (Kd.C_below HR1.out HB.out) | (with_reducible refine Kd.C_alloc ?_ _) | (with_reducible refine Kd.C_drewN ?_ _) | (with_reducible refine Kd.C_drew ?_)))
                            (case side2 => exact HC1.out)
                            rintro e w' ⟨rfl, ⟨nd, rfl⟩⟩
                            refine ⟨_, rfl, ?_⟩
                            refine hK.out _ _ ⟨((HB.out.cell (World.block_lt_of_cell? w _ hw207_0)).trans hw207_0), ((HB.out.cell (World.block_lt_of_cell? w _ hw207_1)).trans hw207_1), ((HB.out.cell (World.block_lt_of_cell? w _ hw207_2)).trans hw207_2), ((HB.out.cell (World.block_lt_of_cell? w _ hw207_3)).trans hw207_3), ((HB.out.cell (World.block_lt_of_cell? w _ hw207_4)).trans hw207_4), ((HB.out.cell (World.block_lt_of_cell? w _ hw207_5)).trans hw207_5), ((HB.out.cell (World.block_lt_of_cell? w _ hw207_6)).trans hw207_6), ((HB.out.cell (World.block_lt_of_cell? w _ hw207_7)).trans hw207_7), ((HB.out.cell (World.block_lt_of_cell? w _ hw207_8)).trans hw207_8), ((HB.out.cell (World.block_lt_of_cell? w _ hw207_9)).trans hw207_9), ((HB.out.cell (World.block_lt_of_cell? w _ hw207_10)).trans hw207_10), ((HB.out.cell (World.block_lt_of_cell? w _ hw207_11)).trans hw207_11), ((HB.out.cell (World.block_lt_of_cell? w _ hw207_12)).trans hw207_12), ((HB.out.cell (World.block_lt_of_cell? w _ hw207_13)).trans hw207_13), ((HB.out.cell (World.block_lt_of_cell? w _ hw207_14)).trans hw207_14), ((HB.out.cell (World.block_lt_of_cell? w _ hw207_15)).trans hw207_15), ((HB.out.cell (World.block_lt_of_cell? w _ hw208_0)).trans hw208_0), ((HB.out.cell (World.block_lt_of_cell? w _ hw208_1)).trans hw208_1), ((HB.out.cell (World.block_lt_of_cell? w _ hw208_2)).trans hw208_2), ((HB.out.cell (World.block_lt_of_cell? w _ hw208_3)).trans hw208_3), ((HB.out.cell (World.block_lt_of_cell? w _ hw208_4)).trans hw208_4), ((HB.out.cell (World.block_lt_of_cell? w _ hw208_5)).trans hw208_5), ((HB.out.cell (World.block_lt_of_cell? w _ hw208_6)).trans hw208_6), ((HB.out.cell (World.block_lt_of_cell? w _ hw208_7)).trans hw208_7), ((HB.out.cell (World.block_lt_of_cell? w _ hw208_8)).trans hw208_8), ((HB.out.cell (World.block_lt_of_cell? w _ hw208_9)).trans hw208_9), ((HB.out.cell (World.block_lt_of_cell? w _ hw208_10)).trans hw208_10), ((HB.out.cell (World.block_lt_of_cell? w _ hw208_11)).trans hw208_11), ((HB.out.cell (World.block_lt_of_cell? w _ hw208_12)).trans hw208_12), ((HB.out.cell (World.block_lt_of_cell? w _ hw208_13)).trans hw208_13), ((HB.out.cell (World.block_lt_of_cell? w _ hw208_14)).trans hw208_14), ((HB.out.cell (World.block_lt_of_cell? w _ hw208_15)).trans hw208_15)⟩ (fun hHeld => ?_)
                            clear hK K
                            refine norm_ (a' := ?_) ?_ ?_
                            rotate_left
                            · show Act.put _ (some 31) _ = _
                              simp only [Act.put, List.setIfInBounds_toArray, List.set_cons_zero, List.set_cons_succ, i64_w, i32_w]
                              rfl
                            refine pure_ (i := 7) (N := some 32) (v := ?_) (a' := ?_) #[true, true, true, true, true, true, true, true, false, false, false, false, false, false, false, false, false, false, false, false] rfl rfl (any_of HT_.out (by kernel_rfl)) (fun _ _ _ h => h) (Or.inl ⟨by rfl, ?_⟩) ?_ ?_
                            rotate_left
                            · intro w'
                              go_simp
                              with_reducible rfl
                            rotate_left
                            · simp only [Act.put, List.setIfInBounds_toArray, List.set_cons_zero, List.set_cons_succ, i64_w, i32_w]
                              rfl
                            refine pure_ (i := 8) (N := some 33) (v := ?_) (a' := ?_) #[true, true, true, true, true, true, true, true, true, false, false, false, false, false, false, false, false, false, false, false] rfl rfl (any_of HT_.out (by kernel_rfl)) (fun _ _ _ h => h) (Or.inl ⟨by rfl, ?_⟩) ?_ ?_
                            rotate_left
                            · intro w'
                              go_simp
                              with_reducible rfl
                            rotate_left
                            · simp only [Act.put, List.setIfInBounds_toArray, List.set_cons_zero, List.set_cons_succ, i64_w, i32_w]
                              rfl
                            refine pure_ (i := 9) (N := some 34) (v := ?_) (a' := ?_) #[true, true, true, true, true, true, true, true, true, true, false, false, false, false, false, false, false, false, false, false] rfl rfl (any_of HT_.out (by kernel_rfl)) (fun _ _ _ h => h) (Or.inl ⟨by rfl, ?_⟩) ?_ ?_
                            rotate_left
                            · intro w'
                              go_simp
                              with_reducible rfl
                            rotate_left
                            · simp only [Act.put, List.setIfInBounds_toArray, List.set_cons_zero, List.set_cons_succ, i64_w, i32_w]
                              rfl
                            refine pure_ (i := 10) (N := some 35) (v := ?_) (a' := ?_) #[true, true, true, true, true, true, true, true, true, true, true, false, false, false, false, false, false, false, false, false] rfl rfl (any_of HT_.out (by kernel_rfl)) (fun _ _ _ h => h) (Or.inl ⟨by rfl, ?_⟩) ?_ ?_
                            rotate_left
                            · intro w'
                              go_simp
                              with_reducible rfl
                            rotate_left
                            · simp only [Act.put, List.setIfInBounds_toArray, List.set_cons_zero, List.set_cons_succ, i64_w, i32_w]
                              rfl
                            refine pure_ (i := 11) (N := some 36) (v := ?_) (a' := ?_) #[true, true, true, true, true, true, true, true, true, true, true, true, false, false, false, false, false, false, false, false] rfl rfl (any_of HT_.out (by kernel_rfl)) (fun _ _ _ h => h) (Or.inl ⟨by rfl, ?_⟩) ?_ ?_
                            rotate_left
                            · intro w'
                              go_simp
                              with_reducible rfl
                            rotate_left
                            · simp only [Act.put, List.setIfInBounds_toArray, List.set_cons_zero, List.set_cons_succ, i64_w, i32_w]
                              rfl
                            refine pure_ (i := 12) (N := some 37) (v := ?_) (a' := ?_) #[true, true, true, true, true, true, true, true, true, true, true, true, true, false, false, false, false, false, false, false] rfl rfl (any_of HT_.out (by kernel_rfl)) (fun _ _ _ h => h) (Or.inl ⟨by rfl, ?_⟩) ?_ ?_
                            rotate_left
                            · intro w'
                              go_simp
                              with_reducible rfl
                            rotate_left
                            · simp only [Act.put, List.setIfInBounds_toArray, List.set_cons_zero, List.set_cons_succ, i64_w, i32_w]
                              rfl
                            refine pure_ (i := 14) (N := some 39) (v := ?_) (a' := ?_) #[true, true, true, true, true, true, true, true, true, true, true, true, true, false, true, false, false, false, false, false] rfl rfl (any_of HT_.out (by kernel_rfl)) (fun _ _ _ h => h) (Or.inl ⟨by rfl, ?_⟩) ?_ ?_
                            rotate_left
                            · intro w'
                              go_simp
                              with_reducible rfl
                            rotate_left
                            · simp only [Act.put, List.setIfInBounds_toArray, List.set_cons_zero, List.set_cons_succ, i64_w, i32_w]
                              rfl
                            refine pure_ (i := 15) (N := some 40) (v := ?_) (a' := ?_) #[true, true, true, true, true, true, true, true, true, true, true, true, true, false, true, true, false, false, false, false] rfl rfl (any_of HT_.out (by kernel_rfl)) (fun _ _ _ h => h) (Or.inl ⟨by rfl, ?_⟩) ?_ ?_
                            rotate_left
                            · intro w'
                              go_simp
                              with_reducible rfl
                            rotate_left
                            · simp only [Act.put, List.setIfInBounds_toArray, List.set_cons_zero, List.set_cons_succ, i64_w, i32_w]
                              rfl
                            refine pure_ (i := 16) (N := some 41) (v := ?_) (a' := ?_) #[true, true, true, true, true, true, true, true, true, true, true, true, true, false, true, true, true, false, false, false] rfl rfl (any_of HT_.out (by kernel_rfl)) (fun _ _ _ h => h) (Or.inl ⟨by rfl, ?_⟩) ?_ ?_
                            rotate_left
                            · intro w'
                              go_simp
                              with_reducible rfl
                            rotate_left
                            · simp only [Act.put, List.setIfInBounds_toArray, List.set_cons_zero, List.set_cons_succ, i64_w, i32_w]
                              rfl
                            refine take_ (i := 13) (N := some 38) (v := ?_) (a' := ?_) #[true, true, true, true, true, true, true, true, true, true, true, true, true, true, true, true, true, false, false, false] rfl rfl (take_ofW HT_.out HW_.out (by kernel_rfl)) (fun _ _ _ h => h) (Or.inl ⟨by rfl, ?_⟩) hHeld ?_ ?_
                            rotate_left
                            · rintro w' ⟨s0, s1, s2, s3, s4, s5, s6, s7, s8, s9, s10, s11, s12, s13, s14, s15, s16, s17, s18, s19, s20, s21, s22, s23, s24, s25, s26, s27, s28, s29, s30, s31⟩
                              go_simp
                              with_reducible rfl
                            rotate_left
                            · simp only [Act.put, List.setIfInBounds_toArray, List.set_cons_zero, List.set_cons_succ, i64_w, i32_w]
                              rfl
                            refine take_ (i := 17) (N := some 42) (v := ?_) (a' := ?_) #[true, true, true, true, true, true, true, true, true, true, true, true, true, true, true, true, true, true, false, false] rfl rfl (take_ofW HT_.out HW_.out (by kernel_rfl)) (fun _ _ _ h => h) (Or.inl ⟨by rfl, ?_⟩) hHeld ?_ ?_
                            rotate_left
                            · rintro w' ⟨s0, s1, s2, s3, s4, s5, s6, s7, s8, s9, s10, s11, s12, s13, s14, s15, s16, s17, s18, s19, s20, s21, s22, s23, s24, s25, s26, s27, s28, s29, s30, s31⟩
                              go_simp
                              with_reducible rfl
                            rotate_left
                            · simp only [Act.put, List.setIfInBounds_toArray, List.set_cons_zero, List.set_cons_succ, i64_w, i32_w]
                              rfl
                            refine one_ (i := 18) (N := some 43) #[true, true, true, true, true, true, true, true, true, true, true, true, true, true, true, true, true, true, true, false] rfl rfl (one_of HT_.out (by kernel_rfl)) (by decide) (fun K hK => ?_)
                            refine goes_ Tryz.func23 (by kernel_rfl) rfl #[.agg #[.int .i64 ((rd_T38 l0 x8_2).f0), .int .i64 ((rd_T38 l0 x8_2).f1.f0), .int .i64 ((rd_T38 l0 x8_2).f1.f1), .int .i64 ((rd_T38 l0 x8_2).f1.f2), .int .u64 ((rd_T38 l0 x8_2).f1.f3.f0), .int .u64 ((rd_T38 l0 x8_2).f1.f3.f1), .int .u64 ((rd_T38 l0 x8_2).f1.f4), .int .i64 ((rd_T38 l0 x8_2).f1.f5), .int .i64 ((rd_T38 l0 x8_2).f2.f0), .int .u64 ((rd_T38 l0 x8_2).f2.f1.f0), .int .u64 ((rd_T38 l0 x8_2).f2.f1.f1), .int .u64 ((rd_T38 l0 x8_2).f2.f2), .int .i64 ((rd_T38 l0 x8_2).f2.f3), .int .i64 ((rd_T38 l0 x8_2).f2.f4), .int .i64 ((rd_T38 l0 x8_2).f3), .int .i64 ((rd_T38 l0 x8_2).f4)], .agg #[.int .i64 ((rd_T38 l0 x6_1).f0), .int .i64 ((rd_T38 l0 x6_1).f1.f0), .int .i64 ((rd_T38 l0 x6_1).f1.f1), .int .i64 ((rd_T38 l0 x6_1).f1.f2), .int .u64 ((rd_T38 l0 x6_1).f1.f3.f0), .int .u64 ((rd_T38 l0 x6_1).f1.f3.f1), .int .u64 ((rd_T38 l0 x6_1).f1.f4), .int .i64 ((rd_T38 l0 x6_1).f1.f5), .int .i64 ((rd_T38 l0 x6_1).f2.f0), .int .u64 ((rd_T38 l0 x6_1).f2.f1.f0), .int .u64 ((rd_T38 l0 x6_1).f2.f1.f1), .int .u64 ((rd_T38 l0 x6_1).f2.f2), .int .i64 ((rd_T38 l0 x6_1).f2.f3), .int .i64 ((rd_T38 l0 x6_1).f2.f4), .int .i64 ((rd_T38 l0 x6_1).f3), .int .i64 ((rd_T38 l0 x6_1).f4)]] (by rfl) rfl rfl (by (try simp only [List.map_toArray, List.map_cons, List.map_nil]); first | done | rfl | (simp only [List.length_drop, List.length_take]; rfl)) ?_
                            with_reducible refine (burnbagref14_Ahead.calls ((rd_T38 l0 x8_2).f0) ((rd_T38 l0 x8_2).f1.f0) ((rd_T38 l0 x8_2).f1.f1) ((rd_T38 l0 x8_2).f1.f2) ((rd_T38 l0 x8_2).f1.f3.f0) ((rd_T38 l0 x8_2).f1.f3.f1) ((rd_T38 l0 x8_2).f1.f4) ((rd_T38 l0 x8_2).f1.f5) ((rd_T38 l0 x8_2).f2.f0) ((rd_T38 l0 x8_2).f2.f1.f0) ((rd_T38 l0 x8_2).f2.f1.f1) ((rd_T38 l0 x8_2).f2.f2) ((rd_T38 l0 x8_2).f2.f3) ((rd_T38 l0 x8_2).f2.f4) ((rd_T38 l0 x8_2).f3) ((rd_T38 l0 x8_2).f4) ((rd_T38 l0 x6_1).f0) ((rd_T38 l0 x6_1).f1.f0) ((rd_T38 l0 x6_1).f1.f1) ((rd_T38 l0 x6_1).f1.f2) ((rd_T38 l0 x6_1).f1.f3.f0) ((rd_T38 l0 x6_1).f1.f3.f1) ((rd_T38 l0 x6_1).f1.f4) ((rd_T38 l0 x6_1).f1.f5) ((rd_T38 l0 x6_1).f2.f0) ((rd_T38 l0 x6_1).f2.f1.f0) ((rd_T38 l0 x6_1).f2.f1.f1) ((rd_T38 l0 x6_1).f2.f2) ((rd_T38 l0 x6_1).f2.f3) ((rd_T38 l0 x6_1).f2.f4) ((rd_T38 l0 x6_1).f3) ((rd_T38 l0 x6_1).f4) false _ A14.out).mono ?_
                            rintro e w19 ⟨rfl, hb⟩
                            refine ⟨_, rfl, ?_⟩
                            have n0_ := Aside0.mk (Kd.R_below (by (with_reducible repeat (first | apply Kd.R_alloc | apply Kd.R_drewN | apply Kd.R_drew)); exact HO_5.out) hb)
                            have n1_ := Aside0.mk (below_step (by repeat (first | (with_reducible first | exact HB.out | apply below_alloc | apply pw_below_drewN | apply below_drew1) | exact HB.out)) hb)
                            clear HO_5
                            clear HB
                            have HO_5 := n0_
                            have HB := n1_
                            clear n0_ n1_
                            (try clear hb)
                            (try clear hb2)
                            (try clear hk)
                            (try clear hi)
                            refine hK.out _ _ ⟨((HB.out.cell (World.block_lt_of_cell? w _ hw207_0)).trans hw207_0), ((HB.out.cell (World.block_lt_of_cell? w _ hw207_1)).trans hw207_1), ((HB.out.cell (World.block_lt_of_cell? w _ hw207_2)).trans hw207_2), ((HB.out.cell (World.block_lt_of_cell? w _ hw207_3)).trans hw207_3), ((HB.out.cell (World.block_lt_of_cell? w _ hw207_4)).trans hw207_4), ((HB.out.cell (World.block_lt_of_cell? w _ hw207_5)).trans hw207_5), ((HB.out.cell (World.block_lt_of_cell? w _ hw207_6)).trans hw207_6), ((HB.out.cell (World.block_lt_of_cell? w _ hw207_7)).trans hw207_7), ((HB.out.cell (World.block_lt_of_cell? w _ hw207_8)).trans hw207_8), ((HB.out.cell (World.block_lt_of_cell? w _ hw207_9)).trans hw207_9), ((HB.out.cell (World.block_lt_of_cell? w _ hw207_10)).trans hw207_10), ((HB.out.cell (World.block_lt_of_cell? w _ hw207_11)).trans hw207_11), ((HB.out.cell (World.block_lt_of_cell? w _ hw207_12)).trans hw207_12), ((HB.out.cell (World.block_lt_of_cell? w _ hw207_13)).trans hw207_13), ((HB.out.cell (World.block_lt_of_cell? w _ hw207_14)).trans hw207_14), ((HB.out.cell (World.block_lt_of_cell? w _ hw207_15)).trans hw207_15), ((HB.out.cell (World.block_lt_of_cell? w _ hw208_0)).trans hw208_0), ((HB.out.cell (World.block_lt_of_cell? w _ hw208_1)).trans hw208_1), ((HB.out.cell (World.block_lt_of_cell? w _ hw208_2)).trans hw208_2), ((HB.out.cell (World.block_lt_of_cell? w _ hw208_3)).trans hw208_3), ((HB.out.cell (World.block_lt_of_cell? w _ hw208_4)).trans hw208_4), ((HB.out.cell (World.block_lt_of_cell? w _ hw208_5)).trans hw208_5), ((HB.out.cell (World.block_lt_of_cell? w _ hw208_6)).trans hw208_6), ((HB.out.cell (World.block_lt_of_cell? w _ hw208_7)).trans hw208_7), ((HB.out.cell (World.block_lt_of_cell? w _ hw208_8)).trans hw208_8), ((HB.out.cell (World.block_lt_of_cell? w _ hw208_9)).trans hw208_9), ((HB.out.cell (World.block_lt_of_cell? w _ hw208_10)).trans hw208_10), ((HB.out.cell (World.block_lt_of_cell? w _ hw208_11)).trans hw208_11), ((HB.out.cell (World.block_lt_of_cell? w _ hw208_12)).trans hw208_12), ((HB.out.cell (World.block_lt_of_cell? w _ hw208_13)).trans hw208_13), ((HB.out.cell (World.block_lt_of_cell? w _ hw208_14)).trans hw208_14), ((HB.out.cell (World.block_lt_of_cell? w _ hw208_15)).trans hw208_15)⟩ (fun hHeld => ?_)
                            clear hK K
                            refine norm_ (a' := ?_) ?_ ?_
                            rotate_left
                            · show Act.put _ (some 43) _ = _
                              simp only [Act.put, List.setIfInBounds_toArray, List.set_cons_zero, List.set_cons_succ, i64_w, i32_w]
                              rfl
                            refine pure_ (i := 19) (N := some 44) (v := ?_) (a' := ?_) #[true, true, true, true, true, true, true, true, true, true, true, true, true, true, true, true, true, true, true, true] rfl rfl (any_of HT_.out (by kernel_rfl)) (fun _ _ _ h => h) (Or.inl ⟨by rfl, ?_⟩) ?_ ?_
                            rotate_left
                            · intro w'
                              go_simp
                              with_reducible rfl
                            rotate_left
                            · simp only [Act.put, List.setIfInBounds_toArray, List.set_cons_zero, List.set_cons_succ, i64_w, i32_w]
                              rfl
                            refine done_ (done_of HT_.out (by kernel_rfl)) ?_
                            try go_wp2
                            go_roundg k2
                            case measure => have := HK1.out; have := HK2.out; omega
                            case rel => exact ⟨(x7_2), (wrap64 (x8_2 + 1)), (by first | rfl | (simp; done) | (simp [*]; done)), (by first | rfl | (simp; done) | (simp [*]; done)), H', ⟨by have := HK1.out; have := HK2.out; omega⟩, ⟨by (with_reducible repeat (first | apply Kd.R_alloc | apply Kd.R_drewN | apply Kd.R_drew)); exact HO_5.out⟩, ⟨by repeat (first | (with_reducible first | exact HB.out | apply below_alloc | apply pw_below_drewN | apply below_drew1) | exact HB.out)⟩⟩
                        · rw [if_neg c13] at H
                          exact absurd H (by simp)
                      · rw [if_neg c12] at H
                        exact absurd H (by simp)
                    · rw [if_neg c11] at H
                      exact absurd H (by simp)
                  · rw [if_neg c10] at H
                    have c10b0 : decide (t206 < 0) = false := decide_eq_false c10
                    clear c10
                    have H' := Aside0.mk H
                    clear H
                    try go_wp2
                    have n0_ := Aside0.mk (Kd.R_drew HO_5.out)
                    have n1_ := Aside0.mk (below_drew1 HB.out)
                    clear HO_5
                    clear HB
                    have HO_5 := n0_
                    have HB := n1_
                    clear n0_ n1_
                    refine start_ (n := 20) (S := fun w' => True) (ds := []) #[false, false, false, false, false, false, false, false, false, false, false, false, false, false, false, false, false, false, false, false] (by kernel_rfl) rfl rfl trivial (fun hHeld => ?_); refine with_tabW burnbagref16_Next.tab10 burnbagref16_Next.bits10 (fun HT_ HW_ => ?_)
                    generalize wr.drew = w20 at HO_5 HB hHeld ⊢
                    refine pure_ (i := 0) (N := some 25) (v := ?_) (a' := ?_) #[true, false, false, false, false, false, false, false, false, false, false, false, false, false, false, false, false, false, false, false] rfl rfl (any_of HT_.out (by kernel_rfl)) (fun _ _ _ h => h) (Or.inl ⟨by rfl, ?_⟩) ?_ ?_
                    rotate_left
                    · intro w'
                      go_simp
                      with_reducible rfl
                    rotate_left
                    · simp only [Act.put, List.setIfInBounds_toArray, List.set_cons_zero, List.set_cons_succ, i64_w, i32_w]
                      rfl
                    refine pure_ (i := 1) (N := some 26) (v := ?_) (a' := ?_) #[true, true, false, false, false, false, false, false, false, false, false, false, false, false, false, false, false, false, false, false] rfl rfl (any_of HT_.out (by kernel_rfl)) (fun _ _ _ h => h) (Or.inl ⟨by rfl, ?_⟩) ?_ ?_
                    rotate_left
                    · intro w'
                      go_simp
                      with_reducible rfl
                    rotate_left
                    · simp only [Act.put, List.setIfInBounds_toArray, List.set_cons_zero, List.set_cons_succ, i64_w, i32_w]
                      rfl
                    refine pure_ (i := 2) (N := some 27) (v := ?_) (a' := ?_) #[true, true, true, false, false, false, false, false, false, false, false, false, false, false, false, false, false, false, false, false] rfl rfl (any_of HT_.out (by kernel_rfl)) (fun _ _ _ h => h) (Or.inl ⟨by rfl, ?_⟩) ?_ ?_
                    rotate_left
                    · intro w'
                      go_simp
                      with_reducible rfl
                    rotate_left
                    · simp only [Act.put, List.setIfInBounds_toArray, List.set_cons_zero, List.set_cons_succ, i64_w, i32_w]
                      rfl
                    refine pure_ (i := 3) (N := some 28) (v := ?_) (a' := ?_) #[true, true, true, true, false, false, false, false, false, false, false, false, false, false, false, false, false, false, false, false] rfl rfl (any_of HT_.out (by kernel_rfl)) (fun _ _ _ h => h) (Or.inl ⟨by rfl, ?_⟩) ?_ ?_
                    rotate_left
                    · intro w'
                      go_simp
                      with_reducible rfl
                    rotate_left
                    · simp only [Act.put, List.setIfInBounds_toArray, List.set_cons_zero, List.set_cons_succ, i64_w, i32_w]
                      rfl
                    refine pure_ (i := 4) (N := some 29) (v := ?_) (a' := ?_) #[true, true, true, true, true, false, false, false, false, false, false, false, false, false, false, false, false, false, false, false] rfl rfl (any_of HT_.out (by kernel_rfl)) (fun _ _ _ h => h) (Or.inl ⟨by rfl, ?_⟩) ?_ ?_
                    rotate_left
                    · intro w'
                      go_simp
                      with_reducible rfl
                    rotate_left
                    · simp only [Act.put, List.setIfInBounds_toArray, List.set_cons_zero, List.set_cons_succ, i64_w, i32_w]
                      rfl
                    refine pure_ (i := 5) (N := some 30) (v := ?_) (a' := ?_) #[true, true, true, true, true, true, false, false, false, false, false, false, false, false, false, false, false, false, false, false] rfl rfl (any_of HT_.out (by kernel_rfl)) (fun _ _ _ h => h) (Or.inl ⟨by rfl, ?_⟩) ?_ ?_
                    rotate_left
                    · intro w'
                      go_simp
                      with_reducible rfl
                    rotate_left
                    · simp only [Act.put, List.setIfInBounds_toArray, List.set_cons_zero, List.set_cons_succ, i64_w, i32_w]
                      rfl
                    refine one_ (i := 6) (N := some 31) #[true, true, true, true, true, true, true, false, false, false, false, false, false, false, false, false, false, false, false, false] rfl rfl (one_of HT_.out (by kernel_rfl)) (by decide) (fun K hK => ?_)
                    refine goes_ Tryz.func22 (by kernel_rfl) rfl #[.slice A1 l1.length c1, .int .i64 x8_2] (by rfl) rfl rfl (by (try simp only [List.map_toArray, List.map_cons, List.map_nil]); first | done | rfl | (simp only [List.length_drop, List.length_take]; rfl)) ?_
                    with_reducible refine (burnbagref16_in.calls k2 _ _ l1 x8_2 t206 _ ?side1 ?side2 A9.out).mono ?_
                    (case side1 => repeat (first | exact (Kd.C_below HR1.out HB.out) | (with_reducible refine Kd.C_alloc ?_ _) | (with_reducible refine Kd.C_drewN ?_ _) | (with_reducible refine Kd.C_drew ?_)))
                    (case side2 => exact HC1.out)
                    rintro e w' ⟨rfl, ⟨nd, rfl⟩⟩
                    refine ⟨_, rfl, ?_⟩
                    refine hK.out _ _ trivial (fun hHeld => ?_)
                    clear hK K
                    refine norm_ (a' := ?_) ?_ ?_
                    rotate_left
                    · show Act.put _ (some 31) _ = _
                      simp only [Act.put, List.setIfInBounds_toArray, List.set_cons_zero, List.set_cons_succ, i64_w, i32_w]
                      rfl
                    refine pure_ (i := 7) (N := some 32) (v := ?_) (a' := ?_) #[true, true, true, true, true, true, true, true, false, false, false, false, false, false, false, false, false, false, false, false] rfl rfl (any_of HT_.out (by kernel_rfl)) (fun _ _ _ h => h) (Or.inl ⟨by rfl, ?_⟩) ?_ ?_
                    rotate_left
                    · intro w'
                      go_simp
                      with_reducible rfl
                    rotate_left
                    · simp only [Act.put, List.setIfInBounds_toArray, List.set_cons_zero, List.set_cons_succ, i64_w, i32_w]
                      rfl
                    refine pure_ (i := 8) (N := some 33) (v := ?_) (a' := ?_) #[true, true, true, true, true, true, true, true, true, false, false, false, false, false, false, false, false, false, false, false] rfl rfl (any_of HT_.out (by kernel_rfl)) (fun _ _ _ h => h) (Or.inl ⟨by rfl, ?_⟩) ?_ ?_
                    rotate_left
                    · intro w'
                      go_simp
                      with_reducible rfl
                    rotate_left
                    · simp only [Act.put, List.setIfInBounds_toArray, List.set_cons_zero, List.set_cons_succ, i64_w, i32_w]
                      rfl
                    refine pure_ (i := 9) (N := some 34) (v := ?_) (a' := ?_) #[true, true, true, true, true, true, true, true, true, true, false, false, false, false, false, false, false, false, false, false] rfl rfl (any_of HT_.out (by kernel_rfl)) (fun _ _ _ h => h) (Or.inl ⟨by rfl, ?_⟩) ?_ ?_
                    rotate_left
                    · intro w'
                      go_simp
                      with_reducible rfl
                    rotate_left
                    · simp only [Act.put, List.setIfInBounds_toArray, List.set_cons_zero, List.set_cons_succ, i64_w, i32_w]
                      rfl
                    refine pure_ (i := 10) (N := some 35) (v := undef) (a' := ?_) #[true, true, true, true, true, true, true, true, true, true, true, false, false, false, false, false, false, false, false, false] rfl rfl (any_of HT_.out (by kernel_rfl)) (fun _ _ _ h => h) (Or.inr ⟨by rfl, rfl⟩) ?_ ?_
                    rotate_left
                    · simp only [Act.put, List.setIfInBounds_toArray, List.set_cons_zero, List.set_cons_succ, i64_w, i32_w]
                      rfl
                    refine pure_ (i := 11) (N := some 36) (v := undef) (a' := ?_) #[true, true, true, true, true, true, true, true, true, true, true, true, false, false, false, false, false, false, false, false] rfl rfl (any_of HT_.out (by kernel_rfl)) (fun _ _ _ h => h) (Or.inr ⟨by rfl, rfl⟩) ?_ ?_
                    rotate_left
                    · simp only [Act.put, List.setIfInBounds_toArray, List.set_cons_zero, List.set_cons_succ, i64_w, i32_w]
                      rfl
                    refine pure_ (i := 12) (N := some 37) (v := undef) (a' := ?_) #[true, true, true, true, true, true, true, true, true, true, true, true, true, false, false, false, false, false, false, false] rfl rfl (any_of HT_.out (by kernel_rfl)) (fun _ _ _ h => h) (Or.inr ⟨by rfl, rfl⟩) ?_ ?_
                    rotate_left
                    · simp only [Act.put, List.setIfInBounds_toArray, List.set_cons_zero, List.set_cons_succ, i64_w, i32_w]
                      rfl
                    refine pure_ (i := 13) (N := some 38) (v := undef) (a' := ?_) #[true, true, true, true, true, true, true, true, true, true, true, true, true, true, false, false, false, false, false, false] rfl rfl (any_of HT_.out (by kernel_rfl)) (fun _ _ _ h => h) (Or.inr ⟨by rfl, rfl⟩) ?_ ?_
                    rotate_left
                    · simp only [Act.put, List.setIfInBounds_toArray, List.set_cons_zero, List.set_cons_succ, i64_w, i32_w]
                      rfl
                    refine pure_ (i := 14) (N := some 39) (v := undef) (a' := ?_) #[true, true, true, true, true, true, true, true, true, true, true, true, true, true, true, false, false, false, false, false] rfl rfl (any_of HT_.out (by kernel_rfl)) (fun _ _ _ h => h) (Or.inr ⟨by rfl, rfl⟩) ?_ ?_
                    rotate_left
                    · simp only [Act.put, List.setIfInBounds_toArray, List.set_cons_zero, List.set_cons_succ, i64_w, i32_w]
                      rfl
                    refine pure_ (i := 15) (N := some 40) (v := undef) (a' := ?_) #[true, true, true, true, true, true, true, true, true, true, true, true, true, true, true, true, false, false, false, false] rfl rfl (any_of HT_.out (by kernel_rfl)) (fun _ _ _ h => h) (Or.inr ⟨by rfl, rfl⟩) ?_ ?_
                    rotate_left
                    · simp only [Act.put, List.setIfInBounds_toArray, List.set_cons_zero, List.set_cons_succ, i64_w, i32_w]
                      rfl
                    refine pure_ (i := 16) (N := some 41) (v := undef) (a' := ?_) #[true, true, true, true, true, true, true, true, true, true, true, true, true, true, true, true, true, false, false, false] rfl rfl (any_of HT_.out (by kernel_rfl)) (fun _ _ _ h => h) (Or.inr ⟨by rfl, rfl⟩) ?_ ?_
                    rotate_left
                    · simp only [Act.put, List.setIfInBounds_toArray, List.set_cons_zero, List.set_cons_succ, i64_w, i32_w]
                      rfl
                    refine pure_ (i := 17) (N := some 42) (v := undef) (a' := ?_) #[true, true, true, true, true, true, true, true, true, true, true, true, true, true, true, true, true, true, false, false] rfl rfl (any_of HT_.out (by kernel_rfl)) (fun _ _ _ h => h) (Or.inr ⟨by rfl, rfl⟩) ?_ ?_
                    rotate_left
                    · simp only [Act.put, List.setIfInBounds_toArray, List.set_cons_zero, List.set_cons_succ, i64_w, i32_w]
                      rfl
                    refine pure_ (i := 18) (N := some 43) (v := undef) (a' := ?_) #[true, true, true, true, true, true, true, true, true, true, true, true, true, true, true, true, true, true, true, false] rfl rfl (any_of HT_.out (by kernel_rfl)) (fun _ _ _ h => h) (Or.inr ⟨by rfl, rfl⟩) ?_ ?_
                    rotate_left
                    · simp only [Act.put, List.setIfInBounds_toArray, List.set_cons_zero, List.set_cons_succ, i64_w, i32_w]
                      rfl
                    refine pure_ (i := 19) (N := some 44) (v := ?_) (a' := ?_) #[true, true, true, true, true, true, true, true, true, true, true, true, true, true, true, true, true, true, true, true] rfl rfl (any_of HT_.out (by kernel_rfl)) (fun _ _ _ h => h) (Or.inl ⟨by rfl, ?_⟩) ?_ ?_
                    rotate_left
                    · intro w'
                      go_simp
                      with_reducible rfl
                    rotate_left
                    · simp only [Act.put, List.setIfInBounds_toArray, List.set_cons_zero, List.set_cons_succ, i64_w, i32_w]
                      rfl
                    refine done_ (done_of HT_.out (by kernel_rfl)) ?_
                    try go_wp2
                    go_roundg k2
                    case measure => have := HK1.out; have := HK2.out; omega
                    case rel => exact ⟨(x7_2), (wrap64 (x8_2 + 1)), (by first | rfl | (simp; done) | (simp [*]; done)), (by first | rfl | (simp; done) | (simp [*]; done)), H', ⟨by have := HK1.out; have := HK2.out; omega⟩, ⟨by (with_reducible repeat (first | apply Kd.R_alloc | apply Kd.R_drewN | apply Kd.R_drew)); exact HO_5.out⟩, ⟨by repeat (first | (with_reducible first | exact HB.out | apply below_alloc | apply pw_below_drewN | apply below_drew1) | exact HB.out)⟩⟩
              · rw [if_neg c6] at H
                have c6b0 : decide (x8_2 < (l0.length : Int)) = false := decide_eq_false c6
                clear c6
                by_cases c21 : x7_2 = true
                · subst c21
                  have H1 : (if x5_1.length < 17592186044416 then (burnbagref16_Next.l0 k2 l0 l1 (x5_1 ++ [x6_1]) (wrap64 (x6_1 + 1))) else (none)) = some r := by rw [if_pos rfl] at H; exact H
                  clear H
                  have H := H1
                  clear H1
                  by_cases c22 : x5_1.length < 17592186044416
                  · rw [if_pos c22] at H
                    have LMc22 := Aside0.mk c22
                    clear c22
                    obtain ⟨y203, hy203⟩ : ∃ y_ : List Int, y_ = (x5_1 ++ [x6_1]) := ⟨_, rfl⟩
                    replace H : (burnbagref16_Next.l0 k2 l0 l1 y203 (wrap64 (x6_1 + 1))) = some r := by first | (rw [hy203]; with_reducible exact H) | (have H2_ := (Option.bind_some _ _).symm.trans H; rw [hy203]; with_reducible exact H2_) | (have H2_ := (Option.bind_some _ _).symm.trans H; with_reducible exact H2_) | with_reducible exact H | (rw [hy203]; exact H) | exact H
                    have Ny203 := Aside0.mk hy203
                    clear hy203
                    have H' := Aside0.mk H
                    clear H
                    go_wp2_with (first | ((with_reducible refine gate_builtin (b := .append) (xs := #[.tmp 46, .tmp 48]) rfl ?_); at_builtin; refine Kd.R_append (Kd.int .i64) (w0 := w) w.heap.size rfl (.tmp 46) (.tmp 48) 23 3 (.int .i64 0) 8 rfl Tryz.underlying23 info3 rfl (by decide) (by omega) u5 x5_1 x6_1 [.int .i64 x6_1] (fun _ => True) (fun _ => False) rfl rfl ?aP (fun _ hk => hk.elim) ?aF ?aO ?aB ?aS ?aL ?_; (case aP => exact rfl); (case aB => exact (by repeat (first | (with_reducible first | exact HB.out | apply below_alloc | apply pw_below_drewN | apply below_drew1) | exact HB.out))); (case aF => exact (fun _ _ => trivial)); (case aO => exact (by (with_reducible repeat (first | apply Kd.R_alloc | apply Kd.R_drewN | apply Kd.R_drew)); exact HO_5.out)); (case aS => exact (below_size (by repeat (first | (with_reducible first | exact HB.out | apply below_alloc | apply pw_below_drewN | apply below_drew1) | exact HB.out)))); (case aL => have := LMc22.out; omega); intro v204 w23 ho hb hg hat; rw [← Ny203.out] at ho; have n0_ := Aside0.mk (hb); have n1_ := Aside0.mk (ho); clear HB; clear HO_5; have HB := n0_; have HO205 := n1_; clear n0_ n1_; clear ho hb hg hat))
                    go_roundg k2
                    case measure => have := HK1.out; have := HK2.out; omega
                    case rel => exact ⟨(y203), (wrap64 (x6_1 + 1)), (by first | rfl | (simp; done) | (simp [*]; done)), H', ⟨by have := HK1.out; have := HK2.out; omega⟩, ⟨by (with_reducible repeat (first | apply Kd.R_alloc | apply Kd.R_drewN | apply Kd.R_drew)); exact HO205.out⟩, ⟨by repeat (first | (with_reducible first | exact HB.out | apply below_alloc | apply pw_below_drewN | apply below_drew1) | exact HB.out)⟩⟩
                  · rw [if_neg c22] at H
                    exact absurd H (by simp)
                · replace c21 := Bool.eq_false_iff.mpr c21
                  subst c21
                  have H1 : (burnbagref16_Next.l0 k2 l0 l1 x5_1 (wrap64 (x6_1 + 1))) = some r := by rw [if_neg (show ¬ (false = true) by decide)] at H; exact H
                  clear H
                  have H := H1
                  clear H1
                  have H' := Aside0.mk H
                  clear H
                  go_wp2
                  go_roundg k2
                  case measure => have := HK1.out; have := HK2.out; omega
                  case rel => exact ⟨(x5_1), (wrap64 (x6_1 + 1)), (by first | rfl | (simp; done) | (simp [*]; done)), H', ⟨by have := HK1.out; have := HK2.out; omega⟩, ⟨by (with_reducible repeat (first | apply Kd.R_alloc | apply Kd.R_drewN | apply Kd.R_drew)); exact HO_5.out⟩, ⟨by repeat (first | (with_reducible first | exact HB.out | apply below_alloc | apply pw_below_drewN | apply below_drew1) | exact HB.out)⟩⟩
      · rw [if_neg c3] at H
        have c3b0 : decide (x6_1 < (l0.length : Int)) = false := decide_eq_false c3
        clear c3
        obtain rfl := Option.some.inj H
        go_wp2
        go_ret
        exact ⟨_, by first | rfl | (simp [errW_none, errW_some] <;> rfl) | (simp [*, errW_none, errW_some] <;> rfl), by (with_reducible repeat (first | apply Kd.R_alloc | apply Kd.R_drewN | apply Kd.R_drew)); exact HO_5.out, by repeat (first | (with_reducible first | exact HB.out | apply below_alloc | apply pw_below_drewN | apply below_drew1) | exact HB.out)⟩

end Go.Proofs.YtphbnfjamclmjaaGreatDoor.PProofMay
