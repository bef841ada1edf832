import Derived.Test.YtphbnfjamclmjaaGreatDoorMd
import Derived.Deep.LoopGhost
/- ProofGrows, walked: whatever comes next, step by step. -/
namespace Go.Proofs.YtphbnfjamclmjaaGreatDoor
open Go.RowKit Go.Maps Go.Sort Go.Proofs.YtphbnfjamclmjaaGreatDoorW.PrintWords Go.Proofs.YtphbnfjamclmjaaGreatDoor.PProofMay
set_option linter.unusedVariables false
set_option linter.unusedSimpArgs false

def doneTo (l : List S38) (m : Nat) : Nat := ((allI m).filter (ansB l)).length
theorem doneTo_succ (l : List S38) (m : Nat) : doneTo l (m + 1) = doneTo l m + if 0 ≤ (rd_T38 l (m : Int)).f4 then 1 else 0 := by
  unfold doneTo allI
  rw [List.range_succ, List.map_append, List.filter_append, List.length_append]
  by_cases h : 0 ≤ (rd_T38 l (m : Int)).f4 <;> simp [ansB, h]
theorem doneTo_le (l : List S38) (m : Nat) : doneTo l m ≤ m := by
  unfold doneTo
  exact Nat.le_trans (List.length_filter_le _ _) (by rw [allI_len]; exact Nat.le_refl _)
theorem inn_le (l : List S38) (o : List Int) : inn l o ≤ o.length := List.length_filter_le _ _
theorem wf_small {o : List Int} {n : Nat} (hn : n ≤ 30) (h : ∀ y ∈ o, 0 ≤ y ∧ y < (n : Int)) : WfAll o := fun y hy => WalkArith.wf_i64 (by have := h y hy; omega)
theorem mem_rd {nx : List Int} {i : Int} (h0 : 0 ≤ i) (h1 : i < nx.length) : rd nx i ∈ nx := by
  have : rd nx i = nx[i.toNat]'(by omega) := by simp [rd, List.getD_eq_getElem?_getD, show i.toNat < nx.length by omega]
  rw [this]
  exact List.getElem_mem _

def RelD (l : List S38) (w : World) (k d : Nat) (wr : World) : Prop :=
  d = doneTo l k ∧ Below w.heap.size w wr ∧ ∀ i : Nat, i < k → 0 ≤ (rd_T38 l i).f4 → 0 ≤ (rd_T38 l i).f3 ∧ (rd_T38 l i).f3 < (rd_T38 l i).f4
def RelG (l : List S38) (w : World) (m s : Nat) (v : Value) (wr : World) : Prop :=
  ∃ o : List Int, o.length = m ∧ s = inn l o ∧ Grown l o ∧ Kd.R (Kd.int .i64) 3 wr w.heap.size (fun _ => True) v o ∧ Below w.heap.size w wr

set_option maxHeartbeats 8000000 in
set_option maxRecDepth 100000 in
theorem proofGrows_walk (l : List S38) (A0 A1 : Option Addr) (c0 c1 : Nat) (pk : List Int) (w : World) (hr0 : Kd.C k38 w A0 l.length l) (hc0 : l.length ≤ c0) (hr : Kd.C (Kd.int .u8) w A1 pk.length pk) (hc1 : pk.length ≤ c1) (hwf : ∀ x ∈ pk, (Lit.int .u8 x).wf = true) :
    Calls Tryz.prog 4 #[.slice A0 l.length c0, .slice A1 pk.length c1] w (LivesPost w) := by
  have hlm := hr0.2.1
  have hom := hr.2.1
  have HR0 := Lib.hid hr0
  have HR1 := Lib.hid hr
  have HW := Lib.hid hwf
  clear hr0 hr hwf
  by_cases h30 : 30 < l.length
  · have e30 : decide ((30 : Int) < (l.length : Int)) = true := decide_eq_true (by omega)
    go_enter Tryz.func4, Tryz.ntmps4
    go_wp2_with fail
    refine (lives_true _).mono ?_
    rintro e w1 ⟨rfl, hb1⟩
    go_wp2
    go_ret
    exact ⟨rfl, hb1⟩
  · have e30 : decide ((30 : Int) < (l.length : Int)) = false := decide_eq_false (by omega)
    have hn : l.length ≤ 30 := by omega
    clear h30
    go_enter Tryz.func4, Tryz.ntmps4
    go_wp2_with fail
    go_loopg [5, 6] l.length (fun g d i wr => ∃ k dn : Nat, k ≤ l.length ∧ i = .int .i64 k ∧ d = .int .i64 dn ∧ g = l.length - k ∧ RelD l w k dn wr)
    case atStart => exact ⟨0, 0, Nat.zero_le _, rfl, rfl, rfl, rfl, Below.refl _ _, fun i hi => by omega⟩
    case round =>
      obtain ⟨k, dn, hk, rfl, rfl, hg, hdn, hnx, hgood⟩ := hrel
      have HG := Lib.hid hg
      have HDN := Lib.hid hdn
      have HGD := Lib.hid hgood
      have hdl := doneTo_le l k
      have hdl2 : dn ≤ k := by omega
      clear hg hdn hgood hdl
      by_cases hlt : k < l.length
      · have HSU := Lib.hid (doneTo_succ l k)
        obtain ⟨ad, rfl, _, _, _, _, _, _, _, _, _, _, _, _, _, _, g14, g15⟩ := at_T38 (Kd.C_below HR0.out hnx) (k : Int) (by omega) (by omega)
        rw [Int.toNat_natCast] at g14 g15
        have HNX := Lib.hid hnx
        clear hnx
        by_cases ht : 0 ≤ (rd_T38 l k).f4
        · have t0 : decide (0 ≤ (rd_T38 l k).f4) = true := decide_eq_true ht
          by_cases hf : (rd_T38 l k).f3 < 0
          · have f0 : decide ((rd_T38 l k).f3 < 0) = true := decide_eq_true hf
            go_wp2
            go_quiet (fail)
            go_wp2_with fail
            refine (lives_true _).mono ?_
            rintro e w1 ⟨rfl, hb1⟩
            go_wp2
            go_ret
            exact ⟨rfl, below_next (pw_below_drewN HNX.out _) hb1⟩
          · have f0 : decide ((rd_T38 l k).f3 < 0) = false := decide_eq_false hf
            by_cases hle : (rd_T38 l k).f4 ≤ (rd_T38 l k).f3
            · have f1 : decide ((rd_T38 l k).f4 ≤ (rd_T38 l k).f3) = true := decide_eq_true hle
              go_wp2
              go_quiet (fail)
              go_wp2_with fail
              refine (lives_true _).mono ?_
              rintro e w1 ⟨rfl, hb1⟩
              go_wp2
              go_ret
              exact ⟨rfl, below_next (pw_below_drewN HNX.out _) hb1⟩
            · have f1 : decide ((rd_T38 l k).f4 ≤ (rd_T38 l k).f3) = false := decide_eq_false hle
              have HGG := Lib.hid (show 0 ≤ (rd_T38 l k).f3 ∧ (rd_T38 l k).f3 < (rd_T38 l k).f4 by omega)
              go_wp2
              go_quiet (fail)
              go_wp2
              go_roundg (l.length - (k + 1))
              case measure => have := HG.out; omega
              case rel => exact ⟨k + 1, dn + 1, by omega, by go_num, by go_num, rfl, by rw [HSU.out, HDN.out, if_pos ht], pw_below_drewN HNX.out _, fun i hi hti => by
                rcases Nat.lt_or_ge i k with h | h
                · exact HGD.out i h hti
                · have : i = k := by omega
                  subst this; exact HGG.out⟩
        · have t0 : decide (0 ≤ (rd_T38 l k).f4) = false := decide_eq_false ht
          have HT := Lib.hid ht
          clear ht
          go_wp2
          go_roundg (l.length - (k + 1))
          case measure => have := HG.out; omega
          case rel => exact ⟨k + 1, dn, by omega, by go_num, rfl, rfl, by rw [HSU.out, HDN.out, if_neg (by have := HT.out; omega)]; rfl, HNX.out, fun i hi hti => by
            rcases Nat.lt_or_ge i k with h | h
            · exact HGD.out i h hti
            · have : i = k := by omega
              subst this; exact absurd hti (by have := HT.out; omega)⟩
      · have HD : Hid (dn = done l) := Lib.hid (by
          have : k = l.length := by omega
          subst this
          exact HDN.out)
        have HGOOD : Hid (Good l) := Lib.hid ⟨fun i hi ht => HGD.out i (by omega) ht⟩
        have hdn30 : dn ≤ 30 := by omega
        have HK : Hid (k = l.length) := Lib.hid (by omega)
        clear HDN HGD HG
        go_wp2
        obtain ⟨wb, hwb⟩ : ∃ wb, wb = wr := ⟨_, rfl⟩
        subst hwb
        go_loopg [7, 8, 9] l.length (fun g v s i wi => ∃ m sn : Nat, m ≤ l.length ∧ i = .int .i64 m ∧ s = .int .i64 sn ∧ g = l.length - m ∧ RelG l w m sn v wi)
        case atStart => exact ⟨0, 0, Nat.zero_le _, rfl, rfl, rfl, [], rfl, rfl, Grown.nil l, Kd.R_nil _ _ _ _ _, hnx⟩
        case round =>
          clear hnx
          obtain ⟨m, sn, hm, rfl, rfl, hg, o, hol, hsn, hgr, hR, hb⟩ := hrel
          have HG := Lib.hid hg
          have HSN := Lib.hid hsn
          have hsl := inn_le l o
          have hsn2 : sn ≤ m := by omega
          have HGR := Lib.hid hgr
          obtain ⟨B, d, rfl, hd, hC⟩ := Kd.R_reads hR
          have HOL := Lib.hid hol
          clear hg hsn hgr hsl hol
          by_cases hlt : m < l.length
          · go_wp2_with fail
            refine (next_any l A0 B c0 d o wr (by omega) (by have := HOL.out; omega) (Kd.C_below HR0.out hb) hC (wf_small hn HGR.out.valid)).mono ?_
            rintro e w1 ⟨v1, rfl, hR1, hb1⟩
            have hne := HGR.out.next HGOOD.out (by have := HOL.out; omega)
            have hnl : (nextL l o).length ≤ l.length := nextTo_len l o l.length
            have HIN := Lib.hid (show ∀ y ∈ nextL l o, 0 ≤ y ∧ y < (l.length : Int) ∧ nextB l o y = true from fun y hy => nextTo_in (m := l.length) hy)
            obtain ⟨nx, hnx⟩ : ∃ nx, nx = nextL l o := ⟨_, rfl⟩
            rw [← hnx] at hR1 hne hnl HIN
            clear hnx
            have hpos : 0 < nx.length := List.length_pos_iff.2 hne
            clear hne
            have HOWN := Lib.hid (Kd.R_own hR)
            have hR2 := Kd.R_below hR hb1
            have hbb := below_next hb hb1
            have hR1n := HOWN.out.elim fun inner ho => Kd.R_new hR1 ho
            obtain ⟨B1, d1, rfl, hd1, hC1⟩ := Kd.R_reads hR1
            clear hR hC hR1 HOWN
            have n0 : ((nx.length : Int) == 0) = false := beq_eq_false_iff_ne.mpr (by omega)
            have n1 : (nx.length == 0) = false := beq_eq_false_iff_ne.mpr (by omega)
            by_cases hp : m < pk.length
            · have hp1 : decide ((m : Int) < (pk.length : Int)) = true := decide_eq_true (by omega)
              obtain ⟨adp, hap, gp⟩ := Kd.at_int (Kd.C_below HR1.out hbb) (m : Int) (by omega) (by omega)
              subst hap
              rw [Int.toNat_natCast] at gp
              have hw0 := HW.out _ (mem_rd (nx := pk) (i := (m : Int)) (by omega) (by omega))
              have hq : 0 ≤ rd pk m ∧ rd pk m ≤ 255 := by
                have e0 : IntKind.min .u8 = 0 := by decide
                have e1 : IntKind.max .u8 = 255 := by decide
                simp only [Lit.wf, Bool.and_eq_true, decide_eq_true_eq] at hw0
                omega
              clear hw0
              obtain ⟨hq0, hq1⟩ := hq
              have hi0 : 0 ≤ rd pk m % (nx.length : Int) := Int.emod_nonneg _ (by omega)
              have hi1 : rd pk m % (nx.length : Int) < (nx.length : Int) := Int.emod_lt_of_pos _ (by omega)
              obtain ⟨adn, han, gn⟩ := Kd.at_int hC1 (rd pk (m : Int) % (nx.length : Int)) hi0 hi1
              subst han
              have hy := HIN.out _ (mem_rd hi0 hi1)
              have hC2f := fun w2 (hg : w1.grownBy w2 (Value.slice B o.length d).ownBlock) => (Kd.R_reads (Kd.R_grown hR1n hg (fun k hk => hk.2)))
              have hgn : ∀ w2, w1.grownBy w2 (Value.slice B o.length d).ownBlock → w2.cell? (adn.add (rd pk (m : Int) % (nx.length : Int)).toNat) = some (.int .i64 (rd nx (rd pk (m : Int) % (nx.length : Int)))) := fun w2 hg => by
                obtain ⟨A', c', e', _, hC2⟩ := hC2f w2 hg
                injection e' with e1 e2 e3
                subst e1
                obtain ⟨ad2, e4, g⟩ := Kd.at_int hC2 (rd pk (m : Int) % (nx.length : Int)) hi0 hi1
                injection e4 with e4
                subst e4
                exact g
              clear hC2f hR1n hC1
              obtain ⟨y, hyv⟩ : ∃ y, y = rd nx (rd pk (m : Int) % (nx.length : Int)) := ⟨_, rfl⟩
              rw [← hyv] at gn hy hgn
              have HY := Lib.hid hy
              have HGN := Lib.hid hgn
              obtain ⟨hy0, hy1, _⟩ := hy
              clear hyv hgn
              have y0 : decide (y < 0) = false := decide_eq_false (by omega)
              have y1 : decide ((l.length : Int) ≤ y) = false := decide_eq_false (by omega)
              have hst := HGR.out.step HY.out.1 HY.out.2.1 HY.out.2.2
              have hins := inn_snoc l o y
              obtain ⟨o2, ho2e⟩ : ∃ o2, o2 = o ++ [y] := ⟨_, rfl⟩
              have hlen2 : o2.length = m + 1 := by rw [ho2e, List.length_append, HOL.out]; rfl
              rw [← ho2e] at hst hins
              have HO2 := Lib.hid ho2e
              have HST := Lib.hid hst
              have HINS := Lib.hid hins
              have HL2 := Lib.hid hlen2
              clear ho2e hst hins hlen2
              by_cases ht : 0 ≤ (rd_T38 l y).f4
              · have t0 : decide (0 ≤ (rd_T38 l y).f4) = true := decide_eq_true ht
                have HI2 : Hid (inn l o2 = sn + 1) := Lib.hid (by rw [HINS.out, if_pos ht, HSN.out])
                clear ht
                by_cases hfin : (sn + 1) = dn
                · have f1 : (((sn : Int) + 1 : Int) == (dn : Int)) = true := beq_iff_eq.mpr (by omega)
                  have f2 : ((sn + 1) == dn) = true := beq_iff_eq.mpr hfin
                  have HM : Hid (mayB l o2 = true) := Lib.hid (by rw [HST.out.may]; exact decide_eq_true (by rw [HI2.out, ← HD.out]; exact hfin))
                  clear hfin
                  as_aux_lemma =>
                    go_wp2_with (at_builtin; refine Kd.R_append (Kd.int .i64) (w0 := w) w.heap.size rfl (.tmp 74) (.tmp 79) 23 3 (.int .i64 0) 8 rfl Tryz.underlying23 info3 rfl (by decide) (by omega) (.slice B o.length d) o y [.int .i64 y] (fun _ => True) (fun _ => False) rfl rfl ?aP (fun _ hk => hk.elim) ?aF ?aO ?aB ?aS ?aL ?_; (case aP => exact rfl); (case aF => exact (fun _ _ => trivial)); (case aO => exact hR2); (case aB => exact hbb); (case aS => exact hbb.size); (case aL => have := HOL.out; omega); intro v2 w2 ho2 hb2 hg2 hat2; rw [← HO2.out] at ho2; have gn2 := HGN.out _ hg2; obtain ⟨adl, hal, _, _, _, _, _, _, _, _, _, _, _, _, _, _, _, g15⟩ := at_T38 (Kd.C_below HR0.out hb2) y hy0 hy1; subst hal; obtain ⟨B2, d2, hv2, hd2, hCo⟩ := Kd.R_reads ho2; subst hv2; have HRO := Lib.hid ho2; have HB2 := Lib.hid hb2; have HCO := Lib.hid hCo; clear ho2 hb2 hg2 hat2 hCo hR2 hbb gn)
                    have hm : Calls Tryz.prog 8 #[.slice (some adl) l.length c0, .slice B2 o2.length d2] w2 fun e w' => e = .returned (.bool true) ∧ Below w2.heap.size w2 w' := by
                      have := may_any l (some adl) B2 c0 d2 o2 w2 (by omega) (by have := HL2.out; omega) (Kd.C_below HR0.out HB2.out) HCO.out (wf_small hn HST.out.valid)
                      rw [HM.out] at this
                      exact this
                    refine hm.mono ?_
                    rintro e w3 ⟨rfl, hb3⟩
                    go_wp2
                    go_roundg (l.length - (m + 1))
                    case measure => have := HG.out; omega
                    case rel => exact ⟨m + 1, (sn + 1), by omega, by go_num, by first | rfl | go_num, rfl, o2, HL2.out, HI2.out.symm, HST.out, Kd.R_below HRO.out hb3, below_next HB2.out hb3⟩
                · have f1 : (((sn : Int) + 1 : Int) == (dn : Int)) = false := beq_eq_false_iff_ne.mpr (by omega)
                  have f2 : ((sn + 1) == dn) = false := beq_eq_false_iff_ne.mpr hfin
                  have HM : Hid (mayB l o2 = false) := Lib.hid (by rw [HST.out.may]; exact decide_eq_false (by rw [HI2.out, ← HD.out]; exact hfin))
                  clear hfin
                  as_aux_lemma =>
                    go_wp2_with (at_builtin; refine Kd.R_append (Kd.int .i64) (w0 := w) w.heap.size rfl (.tmp 74) (.tmp 79) 23 3 (.int .i64 0) 8 rfl Tryz.underlying23 info3 rfl (by decide) (by omega) (.slice B o.length d) o y [.int .i64 y] (fun _ => True) (fun _ => False) rfl rfl ?aP (fun _ hk => hk.elim) ?aF ?aO ?aB ?aS ?aL ?_; (case aP => exact rfl); (case aF => exact (fun _ _ => trivial)); (case aO => exact hR2); (case aB => exact hbb); (case aS => exact hbb.size); (case aL => have := HOL.out; omega); intro v2 w2 ho2 hb2 hg2 hat2; rw [← HO2.out] at ho2; have gn2 := HGN.out _ hg2; obtain ⟨adl, hal, _, _, _, _, _, _, _, _, _, _, _, _, _, _, _, g15⟩ := at_T38 (Kd.C_below HR0.out hb2) y hy0 hy1; subst hal; obtain ⟨B2, d2, hv2, hd2, hCo⟩ := Kd.R_reads ho2; subst hv2; have HRO := Lib.hid ho2; have HB2 := Lib.hid hb2; have HCO := Lib.hid hCo; clear ho2 hb2 hg2 hat2 hCo hR2 hbb gn)
                    have hm : Calls Tryz.prog 8 #[.slice (some adl) l.length c0, .slice B2 o2.length d2] w2 fun e w' => e = .returned (.bool false) ∧ Below w2.heap.size w2 w' := by
                      have := may_any l (some adl) B2 c0 d2 o2 w2 (by omega) (by have := HL2.out; omega) (Kd.C_below HR0.out HB2.out) HCO.out (wf_small hn HST.out.valid)
                      rw [HM.out] at this
                      exact this
                    refine hm.mono ?_
                    rintro e w3 ⟨rfl, hb3⟩
                    go_wp2
                    go_roundg (l.length - (m + 1))
                    case measure => have := HG.out; omega
                    case rel => exact ⟨m + 1, (sn + 1), by omega, by go_num, by first | rfl | go_num, rfl, o2, HL2.out, HI2.out.symm, HST.out, Kd.R_below HRO.out hb3, below_next HB2.out hb3⟩
              · have t0 : decide (0 ≤ (rd_T38 l y).f4) = false := decide_eq_false ht
                have HI2 : Hid (inn l o2 = sn) := Lib.hid (by rw [HINS.out, if_neg ht, HSN.out]; rfl)
                clear ht
                by_cases hfin : sn = dn
                · have f1 : (((sn : Int) : Int) == (dn : Int)) = true := beq_iff_eq.mpr (by omega)
                  have f2 : (sn == dn) = true := beq_iff_eq.mpr hfin
                  have HM : Hid (mayB l o2 = true) := Lib.hid (by rw [HST.out.may]; exact decide_eq_true (by rw [HI2.out, ← HD.out]; exact hfin))
                  clear hfin
                  as_aux_lemma =>
                    go_wp2_with (at_builtin; refine Kd.R_append (Kd.int .i64) (w0 := w) w.heap.size rfl (.tmp 74) (.tmp 79) 23 3 (.int .i64 0) 8 rfl Tryz.underlying23 info3 rfl (by decide) (by omega) (.slice B o.length d) o y [.int .i64 y] (fun _ => True) (fun _ => False) rfl rfl ?aP (fun _ hk => hk.elim) ?aF ?aO ?aB ?aS ?aL ?_; (case aP => exact rfl); (case aF => exact (fun _ _ => trivial)); (case aO => exact hR2); (case aB => exact hbb); (case aS => exact hbb.size); (case aL => have := HOL.out; omega); intro v2 w2 ho2 hb2 hg2 hat2; rw [← HO2.out] at ho2; have gn2 := HGN.out _ hg2; obtain ⟨adl, hal, _, _, _, _, _, _, _, _, _, _, _, _, _, _, _, g15⟩ := at_T38 (Kd.C_below HR0.out hb2) y hy0 hy1; subst hal; obtain ⟨B2, d2, hv2, hd2, hCo⟩ := Kd.R_reads ho2; subst hv2; have HRO := Lib.hid ho2; have HB2 := Lib.hid hb2; have HCO := Lib.hid hCo; clear ho2 hb2 hg2 hat2 hCo hR2 hbb gn)
                    have hm : Calls Tryz.prog 8 #[.slice (some adl) l.length c0, .slice B2 o2.length d2] w2 fun e w' => e = .returned (.bool true) ∧ Below w2.heap.size w2 w' := by
                      have := may_any l (some adl) B2 c0 d2 o2 w2 (by omega) (by have := HL2.out; omega) (Kd.C_below HR0.out HB2.out) HCO.out (wf_small hn HST.out.valid)
                      rw [HM.out] at this
                      exact this
                    refine hm.mono ?_
                    rintro e w3 ⟨rfl, hb3⟩
                    go_wp2
                    go_roundg (l.length - (m + 1))
                    case measure => have := HG.out; omega
                    case rel => exact ⟨m + 1, sn, by omega, by go_num, by first | rfl | go_num, rfl, o2, HL2.out, HI2.out.symm, HST.out, Kd.R_below HRO.out hb3, below_next HB2.out hb3⟩
                · have f1 : (((sn : Int) : Int) == (dn : Int)) = false := beq_eq_false_iff_ne.mpr (by omega)
                  have f2 : (sn == dn) = false := beq_eq_false_iff_ne.mpr hfin
                  have HM : Hid (mayB l o2 = false) := Lib.hid (by rw [HST.out.may]; exact decide_eq_false (by rw [HI2.out, ← HD.out]; exact hfin))
                  clear hfin
                  as_aux_lemma =>
                    go_wp2_with (at_builtin; refine Kd.R_append (Kd.int .i64) (w0 := w) w.heap.size rfl (.tmp 74) (.tmp 79) 23 3 (.int .i64 0) 8 rfl Tryz.underlying23 info3 rfl (by decide) (by omega) (.slice B o.length d) o y [.int .i64 y] (fun _ => True) (fun _ => False) rfl rfl ?aP (fun _ hk => hk.elim) ?aF ?aO ?aB ?aS ?aL ?_; (case aP => exact rfl); (case aF => exact (fun _ _ => trivial)); (case aO => exact hR2); (case aB => exact hbb); (case aS => exact hbb.size); (case aL => have := HOL.out; omega); intro v2 w2 ho2 hb2 hg2 hat2; rw [← HO2.out] at ho2; have gn2 := HGN.out _ hg2; obtain ⟨adl, hal, _, _, _, _, _, _, _, _, _, _, _, _, _, _, _, g15⟩ := at_T38 (Kd.C_below HR0.out hb2) y hy0 hy1; subst hal; obtain ⟨B2, d2, hv2, hd2, hCo⟩ := Kd.R_reads ho2; subst hv2; have HRO := Lib.hid ho2; have HB2 := Lib.hid hb2; have HCO := Lib.hid hCo; clear ho2 hb2 hg2 hat2 hCo hR2 hbb gn)
                    have hm : Calls Tryz.prog 8 #[.slice (some adl) l.length c0, .slice B2 o2.length d2] w2 fun e w' => e = .returned (.bool false) ∧ Below w2.heap.size w2 w' := by
                      have := may_any l (some adl) B2 c0 d2 o2 w2 (by omega) (by have := HL2.out; omega) (Kd.C_below HR0.out HB2.out) HCO.out (wf_small hn HST.out.valid)
                      rw [HM.out] at this
                      exact this
                    refine hm.mono ?_
                    rintro e w3 ⟨rfl, hb3⟩
                    go_wp2
                    go_roundg (l.length - (m + 1))
                    case measure => have := HG.out; omega
                    case rel => exact ⟨m + 1, sn, by omega, by go_num, by first | rfl | go_num, rfl, o2, HL2.out, HI2.out.symm, HST.out, Kd.R_below HRO.out hb3, below_next HB2.out hb3⟩
            · have hp1 : decide ((m : Int) < (pk.length : Int)) = false := decide_eq_false (by omega)
              have hi0 : (0 : Int) ≤ 0 := by omega
              have hi1 : (0 : Int) < (nx.length : Int) := by omega
              obtain ⟨adn, han, gn⟩ := Kd.at_int hC1 ((0 : Int)) hi0 hi1
              subst han
              have hy := HIN.out _ (mem_rd hi0 hi1)
              have hC2f := fun w2 (hg : w1.grownBy w2 (Value.slice B o.length d).ownBlock) => (Kd.R_reads (Kd.R_grown hR1n hg (fun k hk => hk.2)))
              have hgn : ∀ w2, w1.grownBy w2 (Value.slice B o.length d).ownBlock → w2.cell? adn = some (.int .i64 (rd nx ((0 : Int)))) := fun w2 hg => by
                obtain ⟨A', c', e', _, hC2⟩ := hC2f w2 hg
                injection e' with e1 e2 e3
                subst e1
                obtain ⟨ad2, e4, g⟩ := Kd.at_int hC2 ((0 : Int)) hi0 hi1
                injection e4 with e4
                subst e4
                exact g
              clear hC2f hR1n hC1
              obtain ⟨y, hyv⟩ : ∃ y, y = rd nx ((0 : Int)) := ⟨_, rfl⟩
              rw [← hyv] at gn hy hgn
              have HY := Lib.hid hy
              have gn0 : w1.cell? adn = some (.int .i64 y) := gn
              clear gn
              have gn := gn0
              clear gn0
              have HGN := Lib.hid hgn
              obtain ⟨hy0, hy1, _⟩ := hy
              clear hyv hgn
              have y0 : decide (y < 0) = false := decide_eq_false (by omega)
              have y1 : decide ((l.length : Int) ≤ y) = false := decide_eq_false (by omega)
              have hst := HGR.out.step HY.out.1 HY.out.2.1 HY.out.2.2
              have hins := inn_snoc l o y
              obtain ⟨o2, ho2e⟩ : ∃ o2, o2 = o ++ [y] := ⟨_, rfl⟩
              have hlen2 : o2.length = m + 1 := by rw [ho2e, List.length_append, HOL.out]; rfl
              rw [← ho2e] at hst hins
              have HO2 := Lib.hid ho2e
              have HST := Lib.hid hst
              have HINS := Lib.hid hins
              have HL2 := Lib.hid hlen2
              clear ho2e hst hins hlen2
              clear hi0 hi1
              by_cases ht : 0 ≤ (rd_T38 l y).f4
              · have t0 : decide (0 ≤ (rd_T38 l y).f4) = true := decide_eq_true ht
                have HI2 : Hid (inn l o2 = sn + 1) := Lib.hid (by rw [HINS.out, if_pos ht, HSN.out])
                clear ht
                by_cases hfin : (sn + 1) = dn
                · have f1 : (((sn : Int) + 1 : Int) == (dn : Int)) = true := beq_iff_eq.mpr (by omega)
                  have f2 : ((sn + 1) == dn) = true := beq_iff_eq.mpr hfin
                  have HM : Hid (mayB l o2 = true) := Lib.hid (by rw [HST.out.may]; exact decide_eq_true (by rw [HI2.out, ← HD.out]; exact hfin))
                  clear hfin
                  as_aux_lemma =>
                    go_wp2_with (at_builtin; refine Kd.R_append (Kd.int .i64) (w0 := w) w.heap.size rfl (.tmp 74) (.tmp 79) 23 3 (.int .i64 0) 8 rfl Tryz.underlying23 info3 rfl (by decide) (by omega) (.slice B o.length d) o y [.int .i64 y] (fun _ => True) (fun _ => False) rfl rfl ?aP (fun _ hk => hk.elim) ?aF ?aO ?aB ?aS ?aL ?_; (case aP => exact rfl); (case aF => exact (fun _ _ => trivial)); (case aO => exact hR2); (case aB => exact hbb); (case aS => exact hbb.size); (case aL => have := HOL.out; omega); intro v2 w2 ho2 hb2 hg2 hat2; rw [← HO2.out] at ho2; have gn2 := HGN.out _ hg2; obtain ⟨adl, hal, _, _, _, _, _, _, _, _, _, _, _, _, _, _, _, g15⟩ := at_T38 (Kd.C_below HR0.out hb2) y hy0 hy1; subst hal; obtain ⟨B2, d2, hv2, hd2, hCo⟩ := Kd.R_reads ho2; subst hv2; have HRO := Lib.hid ho2; have HB2 := Lib.hid hb2; have HCO := Lib.hid hCo; clear ho2 hb2 hg2 hat2 hCo hR2 hbb gn)
                    have hm : Calls Tryz.prog 8 #[.slice (some adl) l.length c0, .slice B2 o2.length d2] w2 fun e w' => e = .returned (.bool true) ∧ Below w2.heap.size w2 w' := by
                      have := may_any l (some adl) B2 c0 d2 o2 w2 (by omega) (by have := HL2.out; omega) (Kd.C_below HR0.out HB2.out) HCO.out (wf_small hn HST.out.valid)
                      rw [HM.out] at this
                      exact this
                    refine hm.mono ?_
                    rintro e w3 ⟨rfl, hb3⟩
                    go_wp2
                    go_roundg (l.length - (m + 1))
                    case measure => have := HG.out; omega
                    case rel => exact ⟨m + 1, (sn + 1), by omega, by go_num, by first | rfl | go_num, rfl, o2, HL2.out, HI2.out.symm, HST.out, Kd.R_below HRO.out hb3, below_next HB2.out hb3⟩
                · have f1 : (((sn : Int) + 1 : Int) == (dn : Int)) = false := beq_eq_false_iff_ne.mpr (by omega)
                  have f2 : ((sn + 1) == dn) = false := beq_eq_false_iff_ne.mpr hfin
                  have HM : Hid (mayB l o2 = false) := Lib.hid (by rw [HST.out.may]; exact decide_eq_false (by rw [HI2.out, ← HD.out]; exact hfin))
                  clear hfin
                  as_aux_lemma =>
                    go_wp2_with (at_builtin; refine Kd.R_append (Kd.int .i64) (w0 := w) w.heap.size rfl (.tmp 74) (.tmp 79) 23 3 (.int .i64 0) 8 rfl Tryz.underlying23 info3 rfl (by decide) (by omega) (.slice B o.length d) o y [.int .i64 y] (fun _ => True) (fun _ => False) rfl rfl ?aP (fun _ hk => hk.elim) ?aF ?aO ?aB ?aS ?aL ?_; (case aP => exact rfl); (case aF => exact (fun _ _ => trivial)); (case aO => exact hR2); (case aB => exact hbb); (case aS => exact hbb.size); (case aL => have := HOL.out; omega); intro v2 w2 ho2 hb2 hg2 hat2; rw [← HO2.out] at ho2; have gn2 := HGN.out _ hg2; obtain ⟨adl, hal, _, _, _, _, _, _, _, _, _, _, _, _, _, _, _, g15⟩ := at_T38 (Kd.C_below HR0.out hb2) y hy0 hy1; subst hal; obtain ⟨B2, d2, hv2, hd2, hCo⟩ := Kd.R_reads ho2; subst hv2; have HRO := Lib.hid ho2; have HB2 := Lib.hid hb2; have HCO := Lib.hid hCo; clear ho2 hb2 hg2 hat2 hCo hR2 hbb gn)
                    have hm : Calls Tryz.prog 8 #[.slice (some adl) l.length c0, .slice B2 o2.length d2] w2 fun e w' => e = .returned (.bool false) ∧ Below w2.heap.size w2 w' := by
                      have := may_any l (some adl) B2 c0 d2 o2 w2 (by omega) (by have := HL2.out; omega) (Kd.C_below HR0.out HB2.out) HCO.out (wf_small hn HST.out.valid)
                      rw [HM.out] at this
                      exact this
                    refine hm.mono ?_
                    rintro e w3 ⟨rfl, hb3⟩
                    go_wp2
                    go_roundg (l.length - (m + 1))
                    case measure => have := HG.out; omega
                    case rel => exact ⟨m + 1, (sn + 1), by omega, by go_num, by first | rfl | go_num, rfl, o2, HL2.out, HI2.out.symm, HST.out, Kd.R_below HRO.out hb3, below_next HB2.out hb3⟩
              · have t0 : decide (0 ≤ (rd_T38 l y).f4) = false := decide_eq_false ht
                have HI2 : Hid (inn l o2 = sn) := Lib.hid (by rw [HINS.out, if_neg ht, HSN.out]; rfl)
                clear ht
                by_cases hfin : sn = dn
                · have f1 : (((sn : Int) : Int) == (dn : Int)) = true := beq_iff_eq.mpr (by omega)
                  have f2 : (sn == dn) = true := beq_iff_eq.mpr hfin
                  have HM : Hid (mayB l o2 = true) := Lib.hid (by rw [HST.out.may]; exact decide_eq_true (by rw [HI2.out, ← HD.out]; exact hfin))
                  clear hfin
                  as_aux_lemma =>
                    go_wp2_with (at_builtin; refine Kd.R_append (Kd.int .i64) (w0 := w) w.heap.size rfl (.tmp 74) (.tmp 79) 23 3 (.int .i64 0) 8 rfl Tryz.underlying23 info3 rfl (by decide) (by omega) (.slice B o.length d) o y [.int .i64 y] (fun _ => True) (fun _ => False) rfl rfl ?aP (fun _ hk => hk.elim) ?aF ?aO ?aB ?aS ?aL ?_; (case aP => exact rfl); (case aF => exact (fun _ _ => trivial)); (case aO => exact hR2); (case aB => exact hbb); (case aS => exact hbb.size); (case aL => have := HOL.out; omega); intro v2 w2 ho2 hb2 hg2 hat2; rw [← HO2.out] at ho2; have gn2 := HGN.out _ hg2; obtain ⟨adl, hal, _, _, _, _, _, _, _, _, _, _, _, _, _, _, _, g15⟩ := at_T38 (Kd.C_below HR0.out hb2) y hy0 hy1; subst hal; obtain ⟨B2, d2, hv2, hd2, hCo⟩ := Kd.R_reads ho2; subst hv2; have HRO := Lib.hid ho2; have HB2 := Lib.hid hb2; have HCO := Lib.hid hCo; clear ho2 hb2 hg2 hat2 hCo hR2 hbb gn)
                    have hm : Calls Tryz.prog 8 #[.slice (some adl) l.length c0, .slice B2 o2.length d2] w2 fun e w' => e = .returned (.bool true) ∧ Below w2.heap.size w2 w' := by
                      have := may_any l (some adl) B2 c0 d2 o2 w2 (by omega) (by have := HL2.out; omega) (Kd.C_below HR0.out HB2.out) HCO.out (wf_small hn HST.out.valid)
                      rw [HM.out] at this
                      exact this
                    refine hm.mono ?_
                    rintro e w3 ⟨rfl, hb3⟩
                    go_wp2
                    go_roundg (l.length - (m + 1))
                    case measure => have := HG.out; omega
                    case rel => exact ⟨m + 1, sn, by omega, by go_num, by first | rfl | go_num, rfl, o2, HL2.out, HI2.out.symm, HST.out, Kd.R_below HRO.out hb3, below_next HB2.out hb3⟩
                · have f1 : (((sn : Int) : Int) == (dn : Int)) = false := beq_eq_false_iff_ne.mpr (by omega)
                  have f2 : (sn == dn) = false := beq_eq_false_iff_ne.mpr hfin
                  have HM : Hid (mayB l o2 = false) := Lib.hid (by rw [HST.out.may]; exact decide_eq_false (by rw [HI2.out, ← HD.out]; exact hfin))
                  clear hfin
                  as_aux_lemma =>
                    go_wp2_with (at_builtin; refine Kd.R_append (Kd.int .i64) (w0 := w) w.heap.size rfl (.tmp 74) (.tmp 79) 23 3 (.int .i64 0) 8 rfl Tryz.underlying23 info3 rfl (by decide) (by omega) (.slice B o.length d) o y [.int .i64 y] (fun _ => True) (fun _ => False) rfl rfl ?aP (fun _ hk => hk.elim) ?aF ?aO ?aB ?aS ?aL ?_; (case aP => exact rfl); (case aF => exact (fun _ _ => trivial)); (case aO => exact hR2); (case aB => exact hbb); (case aS => exact hbb.size); (case aL => have := HOL.out; omega); intro v2 w2 ho2 hb2 hg2 hat2; rw [← HO2.out] at ho2; have gn2 := HGN.out _ hg2; obtain ⟨adl, hal, _, _, _, _, _, _, _, _, _, _, _, _, _, _, _, g15⟩ := at_T38 (Kd.C_below HR0.out hb2) y hy0 hy1; subst hal; obtain ⟨B2, d2, hv2, hd2, hCo⟩ := Kd.R_reads ho2; subst hv2; have HRO := Lib.hid ho2; have HB2 := Lib.hid hb2; have HCO := Lib.hid hCo; clear ho2 hb2 hg2 hat2 hCo hR2 hbb gn)
                    have hm : Calls Tryz.prog 8 #[.slice (some adl) l.length c0, .slice B2 o2.length d2] w2 fun e w' => e = .returned (.bool false) ∧ Below w2.heap.size w2 w' := by
                      have := may_any l (some adl) B2 c0 d2 o2 w2 (by omega) (by have := HL2.out; omega) (Kd.C_below HR0.out HB2.out) HCO.out (wf_small hn HST.out.valid)
                      rw [HM.out] at this
                      exact this
                    refine hm.mono ?_
                    rintro e w3 ⟨rfl, hb3⟩
                    go_wp2
                    go_roundg (l.length - (m + 1))
                    case measure => have := HG.out; omega
                    case rel => exact ⟨m + 1, sn, by omega, by go_num, by first | rfl | go_num, rfl, o2, HL2.out, HI2.out.symm, HST.out, Kd.R_below HRO.out hb3, below_next HB2.out hb3⟩
          · have HML : Hid (o.length = l.length) := Lib.hid (by have := HOL.out; omega)
            go_wp2_with fail
            refine (next_any l A0 B c0 d o wr (by omega) (by have := HOL.out; omega) (Kd.C_below HR0.out hb) hC (wf_small hn HGR.out.valid)).mono ?_
            rintro e w1 ⟨v1, rfl, hR1, hb1⟩
            rw [HGR.out.last HML.out] at hR1
            obtain ⟨B1, d1, rfl, hd1, hC1⟩ := Kd.R_reads hR1
            replace hb1 := below_next hb hb1
            clear hb hR hC hC1 hR1
            go_wp2_with fail
            refine (lives_true _).mono ?_
            rintro e w2 ⟨rfl, hb2⟩
            go_wp2
            go_ret
            exact ⟨rfl, below_next hb1 hb2⟩
end Go.Proofs.YtphbnfjamclmjaaGreatDoor
