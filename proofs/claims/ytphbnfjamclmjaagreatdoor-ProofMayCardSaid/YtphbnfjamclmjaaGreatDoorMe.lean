import Derived.Test.YtphbnfjamclmjaaGreatDoorMd
import Derived.Test.YtphbnfjamclmjaaGreatDoorPm
/- ProofMay, walked: whatever the opers and the order. -/
namespace Go.Proofs.YtphbnfjamclmjaaGreatDoor
open Go.RowKit Go.Maps Go.Sort Go.Proofs.YtphbnfjamclmjaaGreatDoorW.PrintWords Go.Proofs.YtphbnfjamclmjaaGreatDoor.PProofMay
set_option linter.unusedVariables false
set_option linter.unusedSimpArgs false

theorem next_len (l : List S38) (o : List Int) : (nextL l o).length ≤ l.length := nextTo_len l o l.length

set_option maxHeartbeats 8000000 in
set_option maxRecDepth 100000 in
theorem proofMay_walk (l : List S38) (A0 A1 : Option Addr) (c0 c1 : Nat) (o : List Int) (w : World) (hr0 : Kd.C k38 w A0 l.length l) (hc0 : l.length ≤ c0) (hr : Kd.C (Kd.int .i64) w A1 o.length o) (hc1 : o.length ≤ c1) (hwf : WfAll o) :
    Calls Tryz.prog 3 #[.slice A0 l.length c0, .slice A1 o.length c1] w (LivesPost w) := by
  have hlm := hr0.2.1
  have hom := hr.2.1
  have HR0 := Lib.hid hr0
  have HR1 := Lib.hid hr
  have HW := Lib.hid hwf
  clear hr0 hr hwf
  by_cases h40 : 40 < l.length
  · have e40 : decide ((40 : Int) < (l.length : Int)) = true := decide_eq_true (by omega)
    go_enter Tryz.func3, Tryz.ntmps3
    go_wp2_with fail
    refine (lives_true _).mono ?_
    rintro e w1 ⟨rfl, hb1⟩
    go_wp2
    go_ret
    exact ⟨rfl, hb1⟩
  · have e40 : decide ((40 : Int) < (l.length : Int)) = false := decide_eq_false (by omega)
    by_cases h60 : 60 < o.length
    · have e60 : decide ((60 : Int) < (o.length : Int)) = true := decide_eq_true (by omega)
      go_enter Tryz.func3, Tryz.ntmps3
      go_wp2_with fail
      refine (lives_true _).mono ?_
      rintro e w1 ⟨rfl, hb1⟩
      go_wp2
      go_ret
      exact ⟨rfl, hb1⟩
    · have e60 : decide ((60 : Int) < (o.length : Int)) = false := decide_eq_false (by omega)
      have hn : l.length ≤ 100000 := by omega
      have ho : o.length ≤ 100000 := by omega
      obtain ⟨k1, h1⟩ := may_ev hn ho
      obtain ⟨k2, h2⟩ := next_ev hn ho
      obtain ⟨k3, h3⟩ := ints_ev (nextL l o) (Nat.le_trans (next_len l o) hn)
      have H1 := Lib.hid (h1 k1 (Nat.le_refl _))
      have H2 := Lib.hid (h2 k2 (Nat.le_refl _))
      have H3 := Lib.hid (h3 k3 (Nat.le_refl _))
      have HN := Lib.hid hn
      have HO := Lib.hid ho
      clear h1 h2 h3 hn ho
      go_enter Tryz.func3, Tryz.ntmps3
      go_wp2_with fail
      refine (may_any l A0 A1 c0 c1 o w HN.out HO.out HR0.out HR1.out HW.out).mono ?_
      rintro e w1 ⟨rfl, hb1⟩
      go_wp2_with fail
      refine (burnbagref16_May.calls k1 A0 c0 l A1 c1 o (mayB l o) w1 (Kd.C_below HR0.out hb1) hc0 (Kd.C_below HR1.out hb1) hc1 H1.out).mono ?_
      rintro e w2 ⟨rfl, hb2⟩
      replace hb2 := below_next hb1 hb2
      clear hb1
      have hbb : (mayB l o == mayB l o) = true := by simp
      go_wp2_with fail
      refine (next_any l A0 A1 c0 c1 o w2 HN.out HO.out (Kd.C_below HR0.out hb2) (Kd.C_below HR1.out hb2) HW.out).mono ?_
      rintro e w3 ⟨v1, rfl, hR1, hb3⟩
      obtain ⟨B1, d1, rfl, hd1, hC1⟩ := Kd.R_reads hR1
      replace hb3 := below_next hb2 hb3
      clear hb2 hR1
      go_wp2_with fail
      refine (burnbagref16_Next.calls k2 A0 c0 l A1 c1 o (nextL l o) w3 (Kd.C_below HR0.out hb3) hc0 (Kd.C_below HR1.out hb3) hc1 H2.out).mono ?_
      rintro e w4 ⟨v2, rfl, hR2, hb4⟩
      obtain ⟨B2, d2, rfl, hd2, hC2⟩ := Kd.R_reads hR2
      replace hC1 := Kd.C_below hC1 hb4
      replace hb4 := below_next hb3 hb4
      clear hb3 hR2
      go_wp2_with fail
      refine (burnbagref04_Ints.calls k3 B1 d1 (nextL l o) B2 d2 (nextL l o) true w4 hC1 hd1 hC2 hd2 H3.out).mono ?_
      rintro e w5 ⟨rfl, hd5⟩
      have hb5 := below_next hb4 hd5.below
      clear hb4 hd5 hC1 hC2
      go_wp2_with fail
      refine (lives_true _).mono ?_
      rintro e w6 ⟨rfl, hb6⟩
      go_wp2
      go_ret
      exact ⟨rfl, below_next hb5 hb6⟩
end Go.Proofs.YtphbnfjamclmjaaGreatDoor
