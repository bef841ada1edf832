import Derived.Test.YtphbnfjamclmjaaGreatDoorPProofMayx0
import Derived.Test.YtphbnfjamclmjaaGreatDoorMp
import Derived.Maps.OwnOps
import Derived.Maps.OwnSet
import Derived.Lib.Hide
import Derived.Outline
/- The places of an order, as the program keeps them in a map: proof.places by its contract. -/
namespace Go.Proofs.YtphbnfjamclmjaaGreatDoor
open Go.RowKit Go.Maps Go.Proofs.YtphbnfjamclmjaaGreatDoorW.PrintWords
set_option linter.unusedVariables false
set_option linter.unusedSimpArgs false

/-- hist.Ahead of two opers: what it reads is the first one's To and the other one's From. -/
theorem ahead21 (A B : Array Value) (ta fb : Int) (hA : A[15]? = some (.int .i64 ta)) (hB : B[14]? = some (.int .i64 fb)) (w : World) :
    Calls Tryz.prog 21 #[.agg A, .agg B] w fun e w' => e = .returned (.bool (decide (0 ≤ ta) && decide (ta < fb))) ∧ Below w.heap.size w w' := by
  by_cases h : 0 ≤ ta
  · go_enter Tryz.func21, Tryz.ntmps21
    go_wp2
    go_ret
    exact ⟨by simp [h], ((Below.refl _ _).alloc (Nat.le_refl _) _).alloc (by simp) _⟩
  · go_enter Tryz.func21, Tryz.ntmps21
    go_wp2
    go_ret
    exact ⟨by simp; omega, ((Below.refl _ _).alloc (Nat.le_refl _) _).alloc (by simp) _⟩

theorem law3 : Keyed Tryz.prog 3 := int_keyed Tryz.underlying3
theorem zero3 (w : World) : (zeroValue 3).run Tryz.prog w = .ok (.int .i64 0) w := by kernel_rfl
def WfAll (o : List Int) : Prop := ∀ x ∈ o, (Lit.int .i64 x).wf = true
def PlacesPost (n : Nat) (o : List Int) (w : World) (e : Ending) (w' : World) : Prop :=
  ∃ D : DataW Unit, e = .returned (.tuple #[.map (some w.heap.size), .bool (okF n o)]) ∧ w'.ownsMap Tryz.prog 3 (plainElem Tryz.prog 3) w.heap.size o.length D ∧ Holds n o D ∧ Below w.heap.size w w'
def RelP (n : Nat) (o : List Int) (w : World) (k : Nat) (wr : World) : Prop :=
  ∃ D : DataW Unit, wr.ownsMap Tryz.prog 3 (plainElem Tryz.prog 3) w.heap.size k D ∧ Holds n (o.take k) D ∧ Below w.heap.size w wr

theorem take_snoc' (o : List Int) (k : Nat) (h : k < o.length) : o.take (k + 1) = o.take k ++ [rd o k] := by
  rw [List.take_succ_eq_append_getElem h]
  simp [rd, List.getD_eq_getElem?_getD, h]

set_option maxHeartbeats 4000000 in
set_option maxRecDepth 100000 in
theorem places_any (n : Nat) (A0 A1 : Option Addr) (c0 c1 : Nat) (o : List Int) (w : World) (hn : n ≤ 100000) (ho : o.length ≤ 100000) (hr : Kd.C (Kd.int .i64) w A1 o.length o) (hwf : WfAll o) :
    Calls Tryz.prog 20 #[.slice A0 n c0, .slice A1 o.length c1] w (PlacesPost n o w) := by
  have HR := Lib.hid hr
  have HW := Lib.hid hwf
  clear hr hwf
  have hmm := @run_makeMap Tryz.prog
  go_enter Tryz.func20, Tryz.ntmps20
  go_wp2
  go_loopw [13, 7] (fun i b wr => ∃ k : Nat, k ≤ o.length ∧ i = .int .i64 k ∧ b = .bool (okF n (o.take k)) ∧ RelP n o w k wr)
    (fun i _ _ => o.length - (intOf i).toNat)
  case atStart => exact ⟨0, Nat.zero_le _, rfl, by simp [okF_nil], .map [], World.ownsMap_made _ _ _ _, by simpa using Holds.nil n, (Below.refl _ _).alloc (Nat.le_refl _) _⟩
  case round =>
    obtain ⟨k, hk, rfl, rfl, D, hown, hD, hnx⟩ := hrel
    by_cases hlt : k < o.length
    · have hx := (Kd.at_int (Kd.C_below HR.out hnx) (k : Int) (by omega) (by omega))
      obtain ⟨ad, rfl, hcell⟩ := hx
      rw [Int.toNat_natCast] at hcell
      have hwx := HW.out (rd o k) (by rw [show rd o k = o[k] from by simp [rd, List.getD_eq_getElem?_getD, hlt]]; exact List.getElem_mem hlt)
      obtain ⟨c, hrun, hat, hwc⟩ := hown.lookup_int law3 Tryz.underlying50 Tryz.underlying3 (zero3 _) (keyOf_int_mk Tryz.underlying3 hwx)
      have hc : c = atF n (o.take k) (rd o k) := by
        have := hD.at_ (rd o k)
        rw [hat] at this
        simpa using this
      have hnn := atF_nonneg n (o.take k) (rd o k)
      have htk := Lib.hid (take_snoc' o k hlt)
      have hlen : (o.take k).length = k := by simp; omega
      have HL := Lib.hid hlen
      clear hlen hat hwc
      have HA := Lib.hid hc
      clear hc
      have hcw : IntKind.i64.wrap ((k : Int) + 1) = (k : Int) + 1 := IntWalk.i64_in _ (by omega)
      by_cases h1 : rd o k < 0
      · have b1 : decide (rd o k < 0) = true := decide_eq_true h1
        have hbad : Hid (rd o k < 0 ∨ (n : Int) ≤ rd o k ∨ 0 < atF n (o.take k) (rd o k)) := .inl h1
        go_wp2
        go_roundw
        case rel => exact ⟨k + 1, by omega, by go_num, by rw [htk.out, okF_snoc_bad hbad.out], D, hown.mono (by omega), by rw [htk.out]; exact hD.same (atF_snoc_bad hbad.out), hnx⟩
        case measure => simp [intOf]; omega
      · have b1 : decide (rd o k < 0) = false := decide_eq_false h1
        by_cases h2 : (n : Int) ≤ rd o k
        · have b2 : decide ((n : Int) ≤ rd o k) = true := decide_eq_true h2
          have hbad : Hid (rd o k < 0 ∨ (n : Int) ≤ rd o k ∨ 0 < atF n (o.take k) (rd o k)) := .inr (.inl h2)
          go_wp2
          go_roundw
          case rel => exact ⟨k + 1, by omega, by go_num, by rw [htk.out, okF_snoc_bad hbad.out], D, hown.mono (by omega), by rw [htk.out]; exact hD.same (atF_snoc_bad hbad.out), hnx⟩
          case measure => simp [intOf]; omega
        · have b2 : decide ((n : Int) ≤ rd o k) = false := decide_eq_false h2
          by_cases h3 : 0 < c
          · have b3 : decide (0 < c) = true := decide_eq_true h3
            have hbad : Hid (rd o k < 0 ∨ (n : Int) ≤ rd o k ∨ 0 < atF n (o.take k) (rd o k)) := .inr (.inr (by rw [← HA.out]; exact h3))
            go_wp2
            go_roundw
            case rel => exact ⟨k + 1, by omega, by go_num, by rw [htk.out, okF_snoc_bad hbad.out], D, hown.mono (by omega), by rw [htk.out]; exact hD.same (atF_snoc_bad hbad.out), hnx⟩
            case measure => simp [intOf]; omega
          · have b3 : decide (0 < c) = false := decide_eq_false h3
            have h0 : Hid (atF n (o.take k) (rd o k) = 0) := by show _ = _; rw [← HA.out] at hnn ⊢; omega
            have wk : (Lit.int .i64 ((k : Int) + 1)).wf = true := WalkArith.wf_i64 (by omega)
            go_wp2_with (at_mapUpdate; refine wpList_mapUpdate_own _ rfl _ _ _ 50 rfl 3 3 law3 Tryz.underlying50 _ w.heap.size k _ rfl hown (by unfold maxLen; omega) _ _ _ rfl rfl (keyOf_int_mk Tryz.underlying3 hwx) _ [] (plainElem_int Tryz.underlying3 wk) ?_; intro w1 hown1 hgrow1)
            go_roundw
            case rel => exact ⟨k + 1, by omega, by go_num, by rw [htk.out, okF_snoc_good (by omega) (by omega) h0.out], _, hown1, by rw [htk.out]; have := hD.put (x := rd o k) (by omega) (by omega) h0.out; rw [HL.out] at this; exact this, hnx.grown hgrow1 hnx.size (fun j hj => by cases hj; exact Nat.le_refl _)⟩
            case measure => simp [intOf]; omega
    · have hk2 : k = o.length := by omega
      subst hk2
      go_wp2
      go_ret2
      exact ⟨D, by simp, hown, by simpa using hD, hnx⟩
end Go.Proofs.YtphbnfjamclmjaaGreatDoor
