import Derived.Test.YtphbnfjamclmjaaGreatDoorMa
import Derived.Test.YtphbnfjamclmjaaGreatDoorMq
import Derived.Test.YtphbnfjamclmjaaGreatDoorLa
import Derived.Maps.RangeWalk
import Derived.Deep.QuietTactic
import Derived.BigQuiet
import Derived.Lib.QuietBelow
/- proof.May by its contract: whether any order of any opers may be. -/
namespace Go.Proofs.YtphbnfjamclmjaaGreatDoor
open Go.RowKit Go.Maps Go.Sort Go.Proofs.YtphbnfjamclmjaaGreatDoorW.PrintWords Go.Proofs.YtphbnfjamclmjaaGreatDoor.PProofMay
set_option linter.unusedVariables false
set_option linter.unusedSimpArgs false

theorem grown_regrown (w : World) (d : Nat) (os : Array Obj) : w.grownBy (grow (redrawn w d) os) none :=
  have h := below_regrown w d os
  ⟨h.os, h.tape, h.output, h.size, fun k hk _ => h.block k hk⟩
theorem grown_below {w w' : World} (h : Below w.heap.size w w') : w.grownBy w' none := ⟨h.os, h.tape, h.output, h.size, fun k hk _ => h.block k hk⟩
/-- A look-up in the map of places. -/
theorem look_at {n N b : Nat} {o : List Int} {W : World} {D : DataW Unit} (hown : W.ownsMap Tryz.prog 3 (plainElem Tryz.prog 3) b N D) (hD : Holds n o D) (y : Int) (hw : (Lit.int .i64 y).wf = true) :
    (Instr.lookup 50 (.map (some b)) (.int .i64 y) false).run Tryz.prog W = .ok (.int .i64 (atF n o y)) W := by
  obtain ⟨c, hrun, hat, _⟩ := hown.lookup_int law3 Tryz.underlying50 Tryz.underlying3 (zero3 _) (keyOf_int_mk Tryz.underlying3 hw)
  have h := hD.at_ y
  rw [hat] at h
  have : c = atF n o y := by simpa using h
  rw [hrun, this]

def RelM (l : List S38) (o : List Int) (w : World) (D : DataW Unit) (k : Nat) (wr : World) : Prop :=
  wr.ownsMap Tryz.prog 3 (plainElem Tryz.prog 3) w.heap.size o.length D ∧ Below w.heap.size w wr ∧ ∀ j : Nat, j < k → rowOK l o j = true
abbrev BoxV (S : S38) : Array Value := #[.int .i64 S.f0, .int .i64 S.f1.f0, .int .i64 S.f1.f1, .int .i64 S.f1.f2, .int .u64 S.f1.f3.f0, .int .u64 S.f1.f3.f1, .int .u64 S.f1.f4, .int .i64 S.f1.f5, .int .i64 S.f2.f0, .int .u64 S.f2.f1.f0, .int .u64 S.f2.f1.f1, .int .u64 S.f2.f2, .int .i64 S.f2.f3, .int .i64 S.f2.f4, .int .i64 S.f3, .int .i64 S.f4]
def RelI (l : List S38) (o : List Int) (w : World) (D : DataW Unit) (k : Int) (b8 r : Nat) (wr : World) : Prop :=
  ∃ left cnt, wr.ranges Tryz.prog 3 (plainElem Tryz.prog 3) w.heap.size r o.length D left cnt ∧ Below w.heap.size w wr ∧ (∀ y, 0 < atF l.length o y → left (.int .i64 y) = false → passB l o k y = true) ∧
    (∀ y, left y = true → Maps.has D y = true) ∧ wr.heap[b8]? = some (.cells (BoxV (rd_T38 l k)) 38)

set_option maxHeartbeats 8000000 in
set_option maxRecDepth 100000 in
theorem may_any (l : List S38) (A0 A1 : Option Addr) (c0 c1 : Nat) (o : List Int) (w : World) (hn : l.length ≤ 100000) (ho : o.length ≤ 100000) (hr0 : Kd.C k38 w A0 l.length l) (hr : Kd.C (Kd.int .i64) w A1 o.length o) (hwf : WfAll o) :
    Calls Tryz.prog 8 #[.slice A0 l.length c0, .slice A1 o.length c1] w fun e w' => e = .returned (.bool (mayB l o)) ∧ Below w.heap.size w w' := by
  have HR0 := Lib.hid hr0
  have HP := Lib.hid (places_any l.length A0 A1 c0 c1 o w hn ho hr hwf)
  clear hr0 hr hwf
  go_enter Tryz.func8, Tryz.ntmps8
  go_wp2_with fail
  refine HP.out.mono ?_
  clear HP
  rintro e w1 ⟨D, rfl, hown, hD, hb⟩
  have HD := Lib.hid hD
  clear hD
  cases hok : okF l.length o with
  | false =>
    have HK := Lib.hid (mayB_bad hok)
    clear hok
    go_wp2
    go_ret
    exact ⟨by rw [HK.out]; rfl, hb⟩
  | true =>
    have HOK := Lib.hid hok
    clear hok
    go_wp2
    go_loopw [21] (fun i wr => ∃ k : Nat, k ≤ l.length ∧ i = .int .i64 k ∧ RelM l o w D k wr) (fun i _ => l.length - (intOf i).toNat)
    case atStart => exact ⟨0, Nat.zero_le _, rfl, hown, hb, fun j hj => by omega⟩
    case round =>
      clear hown hb
      obtain ⟨k, hk, rfl, hown, hnx, hrows⟩ := hrel
      have HRW := Lib.hid hrows
      clear hrows
      by_cases hlt : k < l.length
      · obtain ⟨ad, rfl, g0, g1, g2, g3, g4, g5, g6, g7, g8, g9, g10, g11, g12, g13, g14, g15⟩ := at_T38 (Kd.C_below HR0.out hnx) (k : Int) (by omega) (by omega)
        rw [Int.toNat_natCast] at g0 g1 g2 g3 g4 g5 g6 g7 g8 g9 g10 g11 g12 g13 g14 g15
        have wk : (Lit.int .i64 (k : Int)).wf = true := WalkArith.wf_i64 (by omega)
        have hlook : ∀ ob, (Instr.lookup 50 (.map (some w.heap.size)) (.int .i64 (k : Int)) false).run Tryz.prog (wr.alloc ob) = .ok (.int .i64 (atF l.length o k)) (wr.alloc ob) := fun ob => look_at (hown.alloc ob) HD.out k wk
        have hcw : IntKind.i64.wrap ((k : Int) + 1) = (k : Int) + 1 := IntWalk.i64_in _ (by omega)
        by_cases hc : atF l.length o k = 0
        · have e0 : (atF l.length o k == 0) = true := beq_iff_eq.mpr hc
          by_cases ht : 0 ≤ (rd_T38 l k).f4
          · have t0 : decide (0 ≤ (rd_T38 l k).f4) = true := decide_eq_true ht
            have HB := Lib.hid (mayB_row (o := o) k hlt (row_bad0 hc ht))
            go_wp2
            go_ret
            exact ⟨by rw [HB.out]; rfl, below_alloc hnx _⟩
          · have t0 : decide (0 ≤ (rd_T38 l k).f4) = false := decide_eq_false ht
            as_aux_lemma =>
              go_wp2_with (first
                | (at_range; refine wpList_range_own _ rfl _ 50 rfl 3 3 law3 Tryz.underlying50 _ w.heap.size o.length D rfl (hown.alloc _) ?_; intro w0 hrg0 hg0 hs0)
                | go_in)
              try go_frame
              have bw0 : w0.heap[wr.heap.size]? = some (.cells (BoxV (rd_T38 l k)) 38) := (hg0.block _ (by simp) (by simp)).trans (blk_new _ _ _ _ rfl)
              have hb0 : Below w.heap.size w w0 := below_next (below_alloc hnx _) ⟨hg0.os, hg0.tape, hg0.output, hg0.size, fun i hi => hg0.block i hi (by simp)⟩
              have hsz : (wr.alloc (.cells (BoxV (rd_T38 l k)) 38)).heap.size = wr.heap.size + 1 := by simp
              rw [hsz] at hrg0
              have hB := hnx.size
              clear hsz
              try simp only [World.size_alloc]
              generalize hB8 : wr.heap.size = b8 at hrg0 bw0 hB ⊢
              clear g0 g1 g2 g3 g4 g5 g6 g7 g8 g9 g10 g11 g12 g13 g14 g15 hlook
              go_loopw [9] (fun _ wi => RelI l o w D k b8 (b8 + 1) wi) (fun _ wi => wi.rangeLeft w.heap.size (b8 + 1))
              case atStart => exact ⟨Maps.has D, Maps.size D, hrg0, hb0, (fun y hy hf => by rw [HD.out.back y hy] at hf; cases hf), fun _ h => h, bw0⟩
              case round =>
                clear hrg0 hg0 hs0 bw0 hb0 hnx hown hB8
                obtain ⟨left, cnt, hrg, hbi, hpass, hleft, hbox⟩ := hrel
                have HPS := Lib.hid hpass
                have HLF := Lib.hid hleft
                have hm0 := Lib.hid hrg.left_eq
                clear hpass hleft
                go_wp2_with (first
                  | (at_next; refine wpList_next_ranges_ii _ rfl _ rfl 3 3 .i64 .i64 law3 Tryz.underlying3 Tryz.underlying3 w.heap.size (b8 + 1) o.length _ _ _ rfl hrg ?_ ?_)
                  | go_in)
                · intro hc0 hl0
                  have hrow : Hid (rowOK l o (k : Int) = true) := Lib.hid (row_of HOK.out (by omega) (fun y hy => HPS.out y hy (hl0 _)))
                  clear hl0
                  go_wp2
                  go_roundw
                  case rel => exact ⟨k + 1, by omega, by go_num, hrg.owns, hbi, fun j hj => by
                    rcases Nat.lt_or_ge j k with h | h
                    · exact HRW.out j h
                    · have : j = k := by omega
                      subst this; exact hrow.out⟩
                  case measure => simp [intOf]; omega
                · intro x c w2 cnt1 hwx hwc hlx hat hrg1 hlt1 hg1 hs1 hen
                  have hb1 : Below w.heap.size w w2 := hbi.trans ⟨hg1.os, hg1.tape, hg1.output, hg1.size, fun i hi => hg1.block i (Nat.lt_of_lt_of_le hi hbi.size) (by simp; omega)⟩
                  have hx := Lib.hid (HLF.out _ hlx)
                  obtain ⟨x', ex, hxp⟩ := HD.out.has _ hx.out
                  cases ex
                  have hxb := atF_pos.1 hxp
                  have hcc : c = atF l.length o x := by
                    have h1 := hat (.lit (.int .i64 0))
                    rw [HD.out.at_ x] at h1
                    simpa using h1.symm
                  subst hcc
                  have hbx : w2.heap[b8]? = some (.cells (BoxV (rd_T38 l k)) 38) := (hg1.block _ (lt_blk hbox) (by simp)).trans hbox
                  clear hrg hbi hg1 hbox hlx hat
                  obtain ⟨ad', e', g0, g1, g2, g3, g4, g5, g6, g7, g8, g9, g10, g11, g12, g13, g14, g15⟩ := at_T38 (Kd.C_below HR0.out hb1) x hxb.1 (by omega)
                  cases e'
                  have r0 := cell_regrown g0
                  have r1 := cell_regrown g1
                  have r2 := cell_regrown g2
                  have r3 := cell_regrown g3
                  have r4 := cell_regrown g4
                  have r5 := cell_regrown g5
                  have r6 := cell_regrown g6
                  have r7 := cell_regrown g7
                  have r8 := cell_regrown g8
                  have r9 := cell_regrown g9
                  have r10 := cell_regrown g10
                  have r11 := cell_regrown g11
                  have r12 := cell_regrown g12
                  have r13 := cell_regrown g13
                  have r14 := cell_regrown g14
                  have r15 := cell_regrown g15
                  clear g0 g1 g2 g3 g4 g5 g6 g7 g8 g9 g10 g11 g12 g13 g14 g15
                  have gb : ∀ d os off, (grow (redrawn w2 d) os).cell? ⟨b8, off, none⟩ = (BoxV (rd_T38 l k))[off]? := fun d os => cell_blk ((below_regrown w2 d os).block _ (lt_blk hbx) |>.trans hbx)
                  have hlk : ∀ d os, (Instr.lookup 50 (.map (some w.heap.size)) (.int .i64 (k : Int)) false).run Tryz.prog (grow (redrawn w2 d) os) = .ok (.int .i64 (atF l.length o k)) (grow (redrawn w2 d) os) := fun d os => look_at (hrg1.owns.kept (grown_regrown w2 d os) (by simp)) HD.out k wk
                  have qx0 : (0 ≤ x) = True := eq_true hxb.1
                  have qx1 : (x < (l.length : Int)) = True := eq_true hxb.2.1
                  have HXP := Lib.hid hxp
                  cases hA : ahB (rd_T38 l k) (rd_T38 l x) with
                  | false =>
                    as_aux_lemma =>
                      have hcall : ∀ W : World, Calls Tryz.prog 21 #[.agg (BoxV (rd_T38 l k)), .agg (BoxV (rd_T38 l x))] W fun e W' => e = .returned (.bool false) ∧ Below W.heap.size W W' := fun W => by
                        have := ahead21 (BoxV (rd_T38 l k)) (BoxV (rd_T38 l x)) _ _ rfl rfl W
                        rw [show (decide (0 ≤ (rd_T38 l k).f4) && decide ((rd_T38 l k).f4 < (rd_T38 l x).f3)) = false from hA] at this
                        exact this
                      have HRG := Lib.hid hrg1
                      have HW2 := Lib.hid hb1
                      have HBX := Lib.hid hbx
                      have HHA := Lib.hid hA
                      go_wp2
                      refine wp_region_quiet_below (by kernel_rfl) (by kernel_rfl) ?_
                      clear hen hA hbx hrg1 hb1 hwx hwc hxb hxp hx hs1
                      repeat (go_big_quiet_step (exact Calls.regrown_of (hcall _)))
                      have HPN := Lib.hid (show passB l o k x = true by simp [passB, HHA.out])
                      refine wpQuiet_nil ?_
                      intro w3 hw3
                      replace hw3 := below_of_regrown hw3
                      go_wp2
                      go_roundw
                      case rel => exact ⟨_, cnt1, HRG.out.kept (grown_below hw3) (by simp) (by simp), HW2.out.trans (hw3.mono HW2.out.size), fun y hy hf => by
                        by_cases hyx : y = x
                        · subst hyx; exact HPN.out
                        · refine HPS.out y hy ?_
                          cases hlf : left (.int .i64 y)
                          · rfl
                          · simp [hlf, Lit.sameKey, hyx] at hf, fun y hy => HLF.out y (by simp at hy; exact hy.1), blk_below hw3 (lt_blk HBX.out) HBX.out⟩
                      case measure => rw [(HRG.out.kept (grown_below hw3) (by simp) (by simp)).left_eq, hm0.out]; exact hlt1
                  | true =>
                    as_aux_lemma =>
                      have hcall : ∀ W : World, Calls Tryz.prog 21 #[.agg (BoxV (rd_T38 l k)), .agg (BoxV (rd_T38 l x))] W fun e W' => e = .returned (.bool true) ∧ Below W.heap.size W W' := fun W => by
                        have := ahead21 (BoxV (rd_T38 l k)) (BoxV (rd_T38 l x)) _ _ rfl rfl W
                        rw [show (decide (0 ≤ (rd_T38 l k).f4) && decide ((rd_T38 l k).f4 < (rd_T38 l x).f3)) = true from hA] at this
                        exact this
                      have HRG := Lib.hid hrg1
                      have HW2 := Lib.hid hb1
                      have HBX := Lib.hid hbx
                      have HHA := Lib.hid hA
                      go_wp2
                      refine wp_region_quiet_below (by kernel_rfl) (by kernel_rfl) ?_
                      clear hen hA hbx hrg1 hb1 hwx hwc hxb hxp hx hs1
                      repeat (go_big_quiet_step (exact Calls.regrown_of (hcall _)))
                      have HPN := Lib.hid (mayB_row (o := o) k hlt (row_bad1 x HXP.out (show passB l o k x = false by simp [passB, HHA.out, hc])))
                      refine wpQuiet_nil ?_
                      intro w3 hw3
                      replace hw3 := below_of_regrown hw3
                      go_wp2
                      go_ret
                      exact ⟨by rw [HPN.out]; rfl, HW2.out.trans (hw3.mono HW2.out.size)⟩
        · have e0 : (atF l.length o k == 0) = false := beq_eq_false_iff_ne.mpr hc
          as_aux_lemma =>
            go_wp2_with (first
              | (at_range; refine wpList_range_own _ rfl _ 50 rfl 3 3 law3 Tryz.underlying50 _ w.heap.size o.length D rfl (hown.alloc _) ?_; intro w0 hrg0 hg0 hs0)
              | go_in)
            try go_frame
            have bw0 : w0.heap[wr.heap.size]? = some (.cells (BoxV (rd_T38 l k)) 38) := (hg0.block _ (by simp) (by simp)).trans (blk_new _ _ _ _ rfl)
            have hb0 : Below w.heap.size w w0 := below_next (below_alloc hnx _) ⟨hg0.os, hg0.tape, hg0.output, hg0.size, fun i hi => hg0.block i hi (by simp)⟩
            have hsz : (wr.alloc (.cells (BoxV (rd_T38 l k)) 38)).heap.size = wr.heap.size + 1 := by simp
            rw [hsz] at hrg0
            have hB := hnx.size
            clear hsz
            try simp only [World.size_alloc]
            generalize hB8 : wr.heap.size = b8 at hrg0 bw0 hB ⊢
            clear g0 g1 g2 g3 g4 g5 g6 g7 g8 g9 g10 g11 g12 g13 g14 g15 hlook
            go_loopw [9] (fun _ wi => RelI l o w D k b8 (b8 + 1) wi) (fun _ wi => wi.rangeLeft w.heap.size (b8 + 1))
            case atStart => exact ⟨Maps.has D, Maps.size D, hrg0, hb0, (fun y hy hf => by rw [HD.out.back y hy] at hf; cases hf), fun _ h => h, bw0⟩
            case round =>
              clear hrg0 hg0 hs0 bw0 hb0 hnx hown hB8
              obtain ⟨left, cnt, hrg, hbi, hpass, hleft, hbox⟩ := hrel
              have HPS := Lib.hid hpass
              have HLF := Lib.hid hleft
              have hm0 := Lib.hid hrg.left_eq
              clear hpass hleft
              go_wp2_with (first
                | (at_next; refine wpList_next_ranges_ii _ rfl _ rfl 3 3 .i64 .i64 law3 Tryz.underlying3 Tryz.underlying3 w.heap.size (b8 + 1) o.length _ _ _ rfl hrg ?_ ?_)
                | go_in)
              · intro hc0 hl0
                have hrow : Hid (rowOK l o (k : Int) = true) := Lib.hid (row_of HOK.out (by omega) (fun y hy => HPS.out y hy (hl0 _)))
                clear hl0
                go_wp2
                go_roundw
                case rel => exact ⟨k + 1, by omega, by go_num, hrg.owns, hbi, fun j hj => by
                  rcases Nat.lt_or_ge j k with h | h
                  · exact HRW.out j h
                  · have : j = k := by omega
                    subst this; exact hrow.out⟩
                case measure => simp [intOf]; omega
              · intro x c w2 cnt1 hwx hwc hlx hat hrg1 hlt1 hg1 hs1 hen
                have hb1 : Below w.heap.size w w2 := hbi.trans ⟨hg1.os, hg1.tape, hg1.output, hg1.size, fun i hi => hg1.block i (Nat.lt_of_lt_of_le hi hbi.size) (by simp; omega)⟩
                have hx := Lib.hid (HLF.out _ hlx)
                obtain ⟨x', ex, hxp⟩ := HD.out.has _ hx.out
                cases ex
                have hxb := atF_pos.1 hxp
                have hcc : c = atF l.length o x := by
                  have h1 := hat (.lit (.int .i64 0))
                  rw [HD.out.at_ x] at h1
                  simpa using h1.symm
                subst hcc
                have hbx : w2.heap[b8]? = some (.cells (BoxV (rd_T38 l k)) 38) := (hg1.block _ (lt_blk hbox) (by simp)).trans hbox
                clear hrg hbi hg1 hbox hlx hat
                obtain ⟨ad', e', g0, g1, g2, g3, g4, g5, g6, g7, g8, g9, g10, g11, g12, g13, g14, g15⟩ := at_T38 (Kd.C_below HR0.out hb1) x hxb.1 (by omega)
                cases e'
                have r0 := cell_regrown g0
                have r1 := cell_regrown g1
                have r2 := cell_regrown g2
                have r3 := cell_regrown g3
                have r4 := cell_regrown g4
                have r5 := cell_regrown g5
                have r6 := cell_regrown g6
                have r7 := cell_regrown g7
                have r8 := cell_regrown g8
                have r9 := cell_regrown g9
                have r10 := cell_regrown g10
                have r11 := cell_regrown g11
                have r12 := cell_regrown g12
                have r13 := cell_regrown g13
                have r14 := cell_regrown g14
                have r15 := cell_regrown g15
                clear g0 g1 g2 g3 g4 g5 g6 g7 g8 g9 g10 g11 g12 g13 g14 g15
                have gb : ∀ d os off, (grow (redrawn w2 d) os).cell? ⟨b8, off, none⟩ = (BoxV (rd_T38 l k))[off]? := fun d os => cell_blk ((below_regrown w2 d os).block _ (lt_blk hbx) |>.trans hbx)
                have hlk : ∀ d os, (Instr.lookup 50 (.map (some w.heap.size)) (.int .i64 (k : Int)) false).run Tryz.prog (grow (redrawn w2 d) os) = .ok (.int .i64 (atF l.length o k)) (grow (redrawn w2 d) os) := fun d os => look_at (hrg1.owns.kept (grown_regrown w2 d os) (by simp)) HD.out k wk
                have qx0 : (0 ≤ x) = True := eq_true hxb.1
                have qx1 : (x < (l.length : Int)) = True := eq_true hxb.2.1
                have HXP := Lib.hid hxp
                cases hA : ahB (rd_T38 l k) (rd_T38 l x) with
                | false =>
                  as_aux_lemma =>
                    have hcall : ∀ W : World, Calls Tryz.prog 21 #[.agg (BoxV (rd_T38 l k)), .agg (BoxV (rd_T38 l x))] W fun e W' => e = .returned (.bool false) ∧ Below W.heap.size W W' := fun W => by
                      have := ahead21 (BoxV (rd_T38 l k)) (BoxV (rd_T38 l x)) _ _ rfl rfl W
                      rw [show (decide (0 ≤ (rd_T38 l k).f4) && decide ((rd_T38 l k).f4 < (rd_T38 l x).f3)) = false from hA] at this
                      exact this
                    have HRG := Lib.hid hrg1
                    have HW2 := Lib.hid hb1
                    have HBX := Lib.hid hbx
                    have HHA := Lib.hid hA
                    go_wp2
                    refine wp_region_quiet_below (by kernel_rfl) (by kernel_rfl) ?_
                    clear hen hA hbx hrg1 hb1 hwx hwc hxb hxp hx hs1
                    repeat (go_big_quiet_step (exact Calls.regrown_of (hcall _)))
                    have HPN := Lib.hid (show passB l o k x = true by simp [passB, HHA.out])
                    refine wpQuiet_nil ?_
                    intro w3 hw3
                    replace hw3 := below_of_regrown hw3
                    go_wp2
                    go_roundw
                    case rel => exact ⟨_, cnt1, HRG.out.kept (grown_below hw3) (by simp) (by simp), HW2.out.trans (hw3.mono HW2.out.size), fun y hy hf => by
                      by_cases hyx : y = x
                      · subst hyx; exact HPN.out
                      · refine HPS.out y hy ?_
                        cases hlf : left (.int .i64 y)
                        · rfl
                        · simp [hlf, Lit.sameKey, hyx] at hf, fun y hy => HLF.out y (by simp at hy; exact hy.1), blk_below hw3 (lt_blk HBX.out) HBX.out⟩
                    case measure => rw [(HRG.out.kept (grown_below hw3) (by simp) (by simp)).left_eq, hm0.out]; exact hlt1
                | true =>
                  by_cases hcx : atF l.length o x < atF l.length o k
                  · as_aux_lemma =>
                      have t1 : decide (atF l.length o x < atF l.length o k) = true := decide_eq_true hcx
                      have hcall : ∀ W : World, Calls Tryz.prog 21 #[.agg (BoxV (rd_T38 l k)), .agg (BoxV (rd_T38 l x))] W fun e W' => e = .returned (.bool true) ∧ Below W.heap.size W W' := fun W => by
                        have := ahead21 (BoxV (rd_T38 l k)) (BoxV (rd_T38 l x)) _ _ rfl rfl W
                        rw [show (decide (0 ≤ (rd_T38 l k).f4) && decide ((rd_T38 l k).f4 < (rd_T38 l x).f3)) = true from hA] at this
                        exact this
                      have HRG := Lib.hid hrg1
                      have HW2 := Lib.hid hb1
                      have HBX := Lib.hid hbx
                      have HHA := Lib.hid hA
                      go_wp2
                      refine wp_region_quiet_below (by kernel_rfl) (by kernel_rfl) ?_
                      clear hen hA hbx hrg1 hb1 hwx hwc hxb hxp hx hs1
                      repeat (go_big_quiet_step (exact Calls.regrown_of (hcall _)))
                      have HPN := Lib.hid (mayB_row (o := o) k hlt (row_bad1 x HXP.out (show passB l o k x = false by simp [passB, HHA.out, hcx])))
                      refine wpQuiet_nil ?_
                      intro w3 hw3
                      replace hw3 := below_of_regrown hw3
                      go_wp2
                      go_ret
                      exact ⟨by rw [HPN.out]; rfl, HW2.out.trans (hw3.mono HW2.out.size)⟩
                  · as_aux_lemma =>
                      have t1 : decide (atF l.length o x < atF l.length o k) = false := decide_eq_false hcx
                      have hcall : ∀ W : World, Calls Tryz.prog 21 #[.agg (BoxV (rd_T38 l k)), .agg (BoxV (rd_T38 l x))] W fun e W' => e = .returned (.bool true) ∧ Below W.heap.size W W' := fun W => by
                        have := ahead21 (BoxV (rd_T38 l k)) (BoxV (rd_T38 l x)) _ _ rfl rfl W
                        rw [show (decide (0 ≤ (rd_T38 l k).f4) && decide ((rd_T38 l k).f4 < (rd_T38 l x).f3)) = true from hA] at this
                        exact this
                      have HRG := Lib.hid hrg1
                      have HW2 := Lib.hid hb1
                      have HBX := Lib.hid hbx
                      have HHA := Lib.hid hA
                      go_wp2
                      refine wp_region_quiet_below (by kernel_rfl) (by kernel_rfl) ?_
                      clear hen hA hbx hrg1 hb1 hwx hwc hxb hxp hx hs1
                      repeat (go_big_quiet_step (exact Calls.regrown_of (hcall _)))
                      have HPN := Lib.hid (show passB l o k x = true by simp [passB, HHA.out, hcx, hc])
                      refine wpQuiet_nil ?_
                      intro w3 hw3
                      replace hw3 := below_of_regrown hw3
                      go_wp2
                      go_roundw
                      case rel => exact ⟨_, cnt1, HRG.out.kept (grown_below hw3) (by simp) (by simp), HW2.out.trans (hw3.mono HW2.out.size), fun y hy hf => by
                        by_cases hyx : y = x
                        · subst hyx; exact HPN.out
                        · refine HPS.out y hy ?_
                          cases hlf : left (.int .i64 y)
                          · rfl
                          · simp [hlf, Lit.sameKey, hyx] at hf, fun y hy => HLF.out y (by simp at hy; exact hy.1), blk_below hw3 (lt_blk HBX.out) HBX.out⟩
                      case measure => rw [(HRG.out.kept (grown_below hw3) (by simp) (by simp)).left_eq, hm0.out]; exact hlt1
      · have hk2 : k = l.length := by omega
        have HA := Lib.hid (mayB_all HOK.out (fun j hj => HRW.out j (by omega)))
        clear hlt
        subst hk2
        go_wp2
        go_ret
        exact ⟨by rw [HA.out]; rfl, hnx⟩
end Go.Proofs.YtphbnfjamclmjaaGreatDoor
