import Derived.Test.YtphbnfjamclmjaaGreatDoorMb
import Derived.Deep.LoopGhost
import Derived.WalkMore
/- proof.Next by its contract. -/
namespace Go.Proofs.YtphbnfjamclmjaaGreatDoor
open Go.RowKit Go.Maps Go.Sort Go.Proofs.YtphbnfjamclmjaaGreatDoorW.PrintWords Go.Proofs.YtphbnfjamclmjaaGreatDoor.PProofMay
set_option linter.unusedVariables false
set_option linter.unusedSimpArgs false

def NextPost (l : List S38) (o : List Int) (w : World) (e : Ending) (w' : World) : Prop :=
  ∃ v : Value, e = .returned v ∧ Kd.R (Kd.int .i64) 3 w' w.heap.size (fun _ => True) v (nextL l o) ∧ Below w.heap.size w w'
def RelN (l : List S38) (o : List Int) (w : World) (D : DataW Unit) (k : Nat) (v : Value) (wr : World) : Prop :=
  wr.ownsMap Tryz.prog 3 (plainElem Tryz.prog 3) w.heap.size o.length D ∧ Below w.heap.size w wr ∧ Kd.R (Kd.int .i64) 3 wr w.heap.size (fun b => b ≠ w.heap.size) v (nextTo l o k)
def RelN2 (l : List S38) (o : List Int) (w : World) (D : DataW Unit) (k : Nat) (v : Value) (b9 : Nat) (j : Nat) (wr : World) : Prop :=
  RelN l o w D k v wr ∧ wr.heap[b9]? = some (.cells (BoxV (rd_T38 l k)) 38) ∧ ∀ i : Nat, i < j → freeB l o k i = true

set_option maxHeartbeats 8000000 in
set_option maxRecDepth 100000 in
theorem next_any (l : List S38) (A0 A1 : Option Addr) (c0 c1 : Nat) (o : List Int) (w : World) (hn : l.length ≤ 100000) (ho : o.length ≤ 100000) (hr0 : Kd.C k38 w A0 l.length l) (hr : Kd.C (Kd.int .i64) w A1 o.length o) (hwf : WfAll o) :
    Calls Tryz.prog 11 #[.slice A0 l.length c0, .slice A1 o.length c1] w (NextPost l o w) := by
  have HR0 := Lib.hid hr0
  have HP := Lib.hid (places_any l.length A0 A1 c0 c1 o w hn ho hr hwf)
  clear hr0 hr hwf
  go_enter Tryz.func11, Tryz.ntmps11
  go_wp2_with fail
  go_step3
  go_wp2_with fail
  refine HP.out.mono ?_
  clear HP
  rintro e w1 ⟨D, rfl, hown, hD, hb⟩
  have HD := Lib.hid hD
  clear hD
  generalize okF l.length o = bok
  go_wp2
  go_step3
  go_wp2
  go_loopg [7, 20] l.length (fun g v i wr => ∃ k : Nat, k ≤ l.length ∧ i = .int .i64 k ∧ g = l.length - k ∧ RelN l o w D k v wr)
  case atStart => exact ⟨0, Nat.zero_le _, rfl, rfl, hown, hb, Kd.R_nil _ _ _ _ _⟩
  case round =>
    clear hown hb
    obtain ⟨k, hk, rfl, hg, hown, hnx, hrow⟩ := hrel
    by_cases hlt : k < l.length
    · obtain ⟨ad, rfl, g0, g1, g2, g3, g4, g5, g6, g7, g8, g9, g10, g11, g12, g13, g14, g15⟩ := at_T38 (Kd.C_below HR0.out hnx) (k : Int) (by omega) (by omega)
      rw [Int.toNat_natCast] at g0 g1 g2 g3 g4 g5 g6 g7 g8 g9 g10 g11 g12 g13 g14 g15
      have wk : (Lit.int .i64 (k : Int)).wf = true := WalkArith.wf_i64 (by omega)
      have hlook : ∀ ob, (Instr.lookup 50 (.map (some w.heap.size)) (.int .i64 (k : Int)) false).run Tryz.prog (wr.alloc ob) = .ok (.int .i64 (atF l.length o k)) (wr.alloc ob) := fun ob => look_at (hown.alloc ob) HD.out k wk
      have hcw : IntKind.i64.wrap ((k : Int) + 1) = (k : Int) + 1 := IntWalk.i64_in _ (by omega)
      by_cases hc : 0 < atF l.length o k
      · have e0 : decide (0 < atF l.length o k) = true := decide_eq_true hc
        have HT := Lib.hid (show nextTo l o (k + 1) = nextTo l o k by rw [nextTo_succ, nextB_bad0 (by omega)]; simp)
        go_wp2
        go_roundg (l.length - (k + 1))
        case measure => omega
        case rel => exact ⟨k + 1, by omega, by go_num, rfl, hown.alloc _, below_alloc hnx _, by rw [HT.out]; exact Kd.R_alloc hrow _⟩
      · have e0 : decide (0 < atF l.length o k) = false := decide_eq_false hc
        have hz : atF l.length o k = 0 := by have := atF_nonneg l.length o k; omega
        have HZ := Lib.hid hz
        clear hz hc
        go_wp2
        clear hlook
        have hB := hnx.size
        have hown2 := hown.alloc (.cells (BoxV (rd_T38 l k)) 38)
        have hnx2 := below_alloc hnx (.cells (BoxV (rd_T38 l k)) 38)
        have hrow2 := Kd.R_alloc hrow (.cells (BoxV (rd_T38 l k)) 38)
        have hbx2 : (wr.alloc (.cells (BoxV (rd_T38 l k)) 38)).heap[wr.heap.size]? = some (.cells (BoxV (rd_T38 l k)) 38) := blk_new _ _ _ _ rfl
        generalize hB9 : wr.heap.size = b9 at hbx2 hB ⊢
        generalize hWQ : wr.alloc (.cells (BoxV (rd_T38 l k)) 38) = wq at hown2 hnx2 hrow2 hbx2 ⊢
        clear hown hnx hrow g0 g1 g2 g3 g4 g5 g6 g7 g8 g9 g10 g11 g12 g13 g14 g15 hWQ hB9
        have HG := Lib.hid hg
        clear hg
        go_loopg [31] l.length (fun g i wi => ∃ j : Nat, j ≤ l.length ∧ i = .int .i64 j ∧ g = l.length - j ∧ RelN2 l o w D k u7 b9 j wi)
        case atStart => exact ⟨0, Nat.zero_le _, rfl, rfl, ⟨hown2, hnx2, hrow2⟩, hbx2, fun i hi => by omega⟩
        case round =>
          clear hown2 hnx2 hrow2 hbx2
          obtain ⟨j, hj, rfl, hg, ⟨hown, hnx, hrow⟩, hbx, hfree⟩ := hrel
          have HF := Lib.hid hfree
          have HG2 := Lib.hid hg
          clear hfree hg
          by_cases hlj : j < l.length
          · obtain ⟨ad', e', g0, g1, g2, g3, g4, g5, g6, g7, g8, g9, g10, g11, g12, g13, g14, g15⟩ := at_T38 (Kd.C_below HR0.out hnx) (j : Int) (by omega) (by omega)
            cases e'
            rw [Int.toNat_natCast] at g0 g1 g2 g3 g4 g5 g6 g7 g8 g9 g10 g11 g12 g13 g14 g15
            have wj : (Lit.int .i64 (j : Int)).wf = true := WalkArith.wf_i64 (by omega)
            have hlook : ∀ ob, (Instr.lookup 50 (.map (some w.heap.size)) (.int .i64 (j : Int)) false).run Tryz.prog (wr.alloc ob) = .ok (.int .i64 (atF l.length o j)) (wr.alloc ob) := fun ob => look_at (hown.alloc ob) HD.out j wj
            have hcj : IntKind.i64.wrap ((j : Int) + 1) = (j : Int) + 1 := IntWalk.i64_in _ (by omega)
            have gb : ∀ ob off, (wr.alloc ob).cell? ⟨b9, off, none⟩ = (BoxV (rd_T38 l k))[off]? := fun ob off => cell_blk (blk_old _ _ _ (lt_blk hbx) hbx) off
            have hbl := lt_blk hbx
            by_cases hcz : atF l.length o j = 0
            · have e2 : (atF l.length o j == 0) = true := beq_iff_eq.mpr hcz
              by_cases hjk : j = k
              · have n1 : ((j : Int) == (k : Int)) = true := by simp [hjk]
                have n2 : ((j : Int) != (k : Int)) = false := by simp [hjk]
                have n3 : decide (j = k) = true := by simp [hjk]
                have HFJ := Lib.hid (show freeB l o k j = true by simp [freeB, hjk])
                clear hjk gb hcz
                go_wp2
                go_roundg (l.length - (j + 1))
                case measure => have := HG2.out; omega
                case rel => exact ⟨j + 1, by omega, by go_num, rfl, ⟨hown.alloc _, below_alloc hnx _, Kd.R_alloc hrow _⟩, blk_old _ _ _ hbl hbx, fun i hi => by
                  rcases Nat.lt_or_ge i j with h | h
                  · exact HF.out i h
                  · have : i = j := by omega
                    subst this; exact HFJ.out⟩
              · have n1 : ((j : Int) == (k : Int)) = false := beq_eq_false_iff_ne.mpr (by omega)
                have n2 : ((j : Int) != (k : Int)) = true := bne_iff_ne.mpr (by omega)
                have n3 : decide (j = k) = false := by simp [hjk]
                have HJK := Lib.hid hjk
                have HCZ := Lib.hid hcz
                clear hjk hcz
                cases hA : ahB (rd_T38 l j) (rd_T38 l k) with
                | false =>
                  as_aux_lemma =>
                    have hcall : ∀ W : World, Calls Tryz.prog 21 #[.agg (BoxV (rd_T38 l j)), .agg (BoxV (rd_T38 l k))] W fun e W' => e = .returned (.bool false) ∧ Below W.heap.size W W' := fun W => by
                      have := ahead21 (BoxV (rd_T38 l j)) (BoxV (rd_T38 l k)) _ _ rfl rfl W
                      rw [show (decide (0 ≤ (rd_T38 l j).f4) && decide ((rd_T38 l j).f4 < (rd_T38 l k).f3)) = false from hA] at this
                      exact this
                    have HHA := Lib.hid hA
                    clear hA
                    go_wp2_with fail
                    refine (hcall _).mono ?_
                    rintro e w3 ⟨rfl, hb3⟩
                    have hbw : Below w.heap.size w w3 := below_next (below_alloc hnx _) hb3
                    have hownw := (hown.alloc (.cells (BoxV (rd_T38 l j)) 38)).kept (grown_below hb3) (by simp)
                    have hroww := Kd.R_below (Kd.R_alloc hrow (.cells (BoxV (rd_T38 l j)) 38)) hb3
                    have hbxw := blk_below hb3 (by simp; omega) (blk_old _ (.cells (BoxV (rd_T38 l j)) 38) _ hbl hbx)
                    clear hown hnx hrow hbx hbl hb3 hcall hlook gb g0 g1 g2 g3 g4 g5 g6 g7 g8 g9 g10 g11 g12 g13 g14 g15
                    go_wp2
                    go_roundg (l.length - (j + 1))
                    case measure => have := HG2.out; omega
                    case rel => exact ⟨j + 1, by omega, by go_num, rfl, ⟨hownw, hbw, hroww⟩, hbxw, fun i hi => by
                      rcases Nat.lt_or_ge i j with h | h
                      · exact HF.out i h
                      · have : i = j := by omega
                        subst this; simp [freeB, HHA.out]⟩
                | true =>
                  as_aux_lemma =>
                    have hcall : ∀ W : World, Calls Tryz.prog 21 #[.agg (BoxV (rd_T38 l j)), .agg (BoxV (rd_T38 l k))] W fun e W' => e = .returned (.bool true) ∧ Below W.heap.size W W' := fun W => by
                      have := ahead21 (BoxV (rd_T38 l j)) (BoxV (rd_T38 l k)) _ _ rfl rfl W
                      rw [show (decide (0 ≤ (rd_T38 l j).f4) && decide ((rd_T38 l j).f4 < (rd_T38 l k).f3)) = true from hA] at this
                      exact this
                    have HHA := Lib.hid hA
                    clear hA
                    go_wp2_with fail
                    refine (hcall _).mono ?_
                    rintro e w3 ⟨rfl, hb3⟩
                    have hbw : Below w.heap.size w w3 := below_next (below_alloc hnx _) hb3
                    have hownw := (hown.alloc (.cells (BoxV (rd_T38 l j)) 38)).kept (grown_below hb3) (by simp)
                    have hroww := Kd.R_below (Kd.R_alloc hrow (.cells (BoxV (rd_T38 l j)) 38)) hb3
                    have hbxw := blk_below hb3 (by simp; omega) (blk_old _ (.cells (BoxV (rd_T38 l j)) 38) _ hbl hbx)
                    clear hown hnx hrow hbx hbl hb3 hcall hlook gb g0 g1 g2 g3 g4 g5 g6 g7 g8 g9 g10 g11 g12 g13 g14 g15
                    go_wp2
                    have HT := Lib.hid (show nextTo l o (k + 1) = nextTo l o k by rw [nextTo_succ, nextB_bad1 j hlj (by unfold freeB; rw [decide_eq_true HCZ.out, decide_eq_true (show (j : Int) ≠ (k : Int) by have := HJK.out; omega), HHA.out]; rfl)]; simp)
                    go_roundg (l.length - (k + 1))
                    case measure => have := HG.out; omega
                    case rel => exact ⟨k + 1, by omega, by go_num, rfl, hownw, hbw, by rw [HT.out]; exact hroww⟩
            · have e2 : (atF l.length o j == 0) = false := beq_eq_false_iff_ne.mpr hcz
              have HFJ := Lib.hid (show freeB l o k j = true by simp [freeB, hcz])
              clear hcz gb
              go_wp2
              go_roundg (l.length - (j + 1))
              case measure => have := HG2.out; omega
              case rel => exact ⟨j + 1, by omega, by go_num, rfl, ⟨hown.alloc _, below_alloc hnx _, Kd.R_alloc hrow _⟩, blk_old _ _ _ hbl hbx, fun i hi => by
                rcases Nat.lt_or_ge i j with h | h
                · exact HF.out i h
                · have : i = j := by omega
                  subst this; exact HFJ.out⟩
          · have HJ : Hid (j = l.length) := Lib.hid (by omega)
            have HNB := Lib.hid (show nextTo l o (k + 1) = nextTo l o k ++ [(k : Int)] by rw [nextTo_succ, nextB_all HZ.out (fun i hi => HF.out i (by have := HJ.out; omega))]; simp)
            have hlen := nextTo_len l o k
            have hlm := hown.lt
            go_wp2_with (at_builtin; refine Kd.R_append (Kd.int .i64) (w0 := w) w.heap.size rfl (.tmp 51) (.tmp 53) 23 3 (.int .i64 0) 8 rfl Tryz.underlying23 info3 rfl (by decide) (by omega) u7 (nextTo l o k) (k : Int) [.int .i64 (k : Int)] (fun b => b ≠ w.heap.size) (fun _ => False) rfl rfl ?aP (fun _ hk => hk.elim) ?aF ?aO ?aB ?aS ?aL ?_; (case aP => exact rfl); (case aF => exact (fun b hb => by omega)); (case aO => exact hrow); (case aB => exact hnx); (case aS => exact hnx.size); (case aL => omega); intro v1 w3 ho hb3 hg3 hat3)
            have HNE := Lib.hid (hown.kept hg3 (fun e => hrow.1 _ e.symm rfl))
            clear hown hnx hrow hbx
            go_roundg (l.length - (k + 1))
            case measure => have := HG.out; omega
            case rel => exact ⟨k + 1, by omega, by go_num, rfl, HNE.out, hb3, by rw [HNB.out]; exact ho⟩
    · have hk2 : k = l.length := by omega
      subst hk2
      go_wp2
      go_ret
      exact ⟨_, rfl, Kd.R_mono hrow (fun _ _ => trivial), hnx⟩
end Go.Proofs.YtphbnfjamclmjaaGreatDoor
