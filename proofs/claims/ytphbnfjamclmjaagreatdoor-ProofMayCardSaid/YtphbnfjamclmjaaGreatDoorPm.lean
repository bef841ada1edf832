import Derived.Test.YtphbnfjamclmjaaGreatDoorMq
import Derived.Test.YtphbnfjamclmjaaGreatDoorPProofMayx6
import Derived.Test.YtphbnfjamclmjaaGreatDoorR7
import Derived.Test.YtphbnfjamclmjaaGreatDoorPProofMayx8
import Derived.Test.YtphbnfjamclmjaaGreatDoorPProofMayx9
/- The document's answers of layer 16, as the printed functions reckon them, are the plain law's: in, May, Next; equal lists are the same. No walk in sight. -/
namespace Go.Proofs.YtphbnfjamclmjaaGreatDoor
open Go.RowKit Go.Maps Go.Proofs.YtphbnfjamclmjaaGreatDoorW.PrintWords Go.Proofs.YtphbnfjamclmjaaGreatDoor.PProofMay
set_option linter.unusedVariables false
set_option linter.unusedSimpArgs false

def Ev {α : Type} (g : Nat → Option α) (r : α) : Prop := ∃ k0, ∀ k, k0 ≤ k → g k = some r
theorem wrapN (i : Nat) (h : i ≤ 200000) : wrap64 ((i : Int) + 1) = ((i + 1 : Nat) : Int) := by unfold wrap64; omega
theorem rd_nat (o : List Int) (j : Nat) (h : j < o.length) : rd o (j : Int) = o[j] := by simp [rd, List.getD_eq_getElem?_getD, h]

def inF (o : List Int) (y : Int) : Int := if y ∈ o then (o.idxOf y : Int) else -1
theorem in_to (o : List Int) (y : Int) (ho : o.length ≤ 100000) (d : Nat) : ∀ i : Nat, i ≤ o.length → o.length - i = d → (∀ j : Nat, j < i → rd o j ≠ y) → Ev (fun k => burnbagref16_in.l0 k o y i) (inF o y) := by
  induction d with
  | zero =>
    intro i hi hd hno
    refine ⟨1, fun k hk => ?_⟩
    obtain ⟨k, rfl⟩ : ∃ m, k = m + 1 := ⟨k - 1, by omega⟩
    simp only [burnbagref16_in.l0]
    rw [if_neg (by omega)]
    have : y ∉ o := fun hm => by
      obtain ⟨j, hj, e⟩ := List.mem_iff_getElem.1 hm
      exact hno j (by omega) (by rw [rd_nat o j hj]; exact e)
    rw [inF, if_neg this]
  | succ d ih =>
    intro i hi hd hno
    have hlt : i < o.length := by omega
    by_cases he : rd o i = y
    · refine ⟨1, fun k hk => ?_⟩
      obtain ⟨k, rfl⟩ : ∃ m, k = m + 1 := ⟨k - 1, by omega⟩
      simp only [burnbagref16_in.l0]
      rw [if_pos (by omega), if_pos (by omega), if_pos he]
      rw [rd_nat o i hlt] at he
      have hm : y ∈ o := by rw [← he]; exact List.getElem_mem hlt
      have hidx : o.idxOf y = i := by
        have h1 : o.idxOf y ≤ i := by
          rcases Nat.lt_or_ge i (o.idxOf y) with h | h
          · exact absurd he (by
              have := List.not_of_lt_findIdx (xs := o) (p := (· == y)) (i := i) (by simpa [List.idxOf] using h)
              simpa using this)
          · exact h
        rcases Nat.lt_or_ge (o.idxOf y) i with h | h
        · have hlt2 := List.idxOf_lt_length_of_mem hm
          exact absurd (by rw [rd_nat o _ hlt2]; exact List.getElem_idxOf hlt2) (hno _ h)
        · omega
      rw [inF, if_pos hm, hidx]
    · obtain ⟨k0, h0⟩ := ih (i + 1) (by omega) (by omega) (fun j hj => by
        rcases Nat.lt_or_ge j i with h | h
        · exact hno j h
        · have : j = i := by omega
          subst this; exact he)
      refine ⟨k0 + 1, fun k hk => ?_⟩
      obtain ⟨k, rfl⟩ : ∃ m, k = m + 1 := ⟨k - 1, by omega⟩
      simp only [burnbagref16_in.l0]
      rw [if_pos (by omega), if_pos (by omega), if_neg he, wrapN i (by omega)]
      exact h0 k (by omega)
theorem in_ev (o : List Int) (y : Int) (ho : o.length ≤ 100000) : Ev (fun k => burnbagref16_in.f k o y) (inF o y) :=
  in_to o y ho o.length 0 (by omega) (by omega) (fun j hj => by omega)
theorem in_k (o : List Int) (y : Int) (ho : o.length ≤ 100000) : ∃ k1, ∀ k, k1 ≤ k → burnbagref16_in.f k o y = some (inF o y) := in_ev o y ho
theorem inF_at {n : Nat} {o : List Int} {y : Int} (h0 : 0 ≤ y) (h1 : y < n) : atF n o y = inF o y + 1 := by
  unfold atF inF
  by_cases h : y ∈ o
  · rw [if_pos ⟨h0, h1, h⟩, if_pos h]
  · rw [if_neg (fun hh => h hh.2.2), if_neg h]; rfl

theorem ints_to (a : List Int) (ha : a.length ≤ 100000) (d : Nat) : ∀ i : Nat, i ≤ a.length → a.length - i = d → Ev (fun k => burnbagref04_Ints.l0 k a a i) true := by
  induction d with
  | zero =>
    intro i hi hd
    refine ⟨1, fun k hk => ?_⟩
    obtain ⟨k, rfl⟩ : ∃ m, k = m + 1 := ⟨k - 1, by omega⟩
    simp only [burnbagref04_Ints.l0]
    rw [if_neg (by omega)]
  | succ d ih =>
    intro i hi hd
    obtain ⟨k0, h0⟩ := ih (i + 1) (by omega) (by omega)
    refine ⟨k0 + 1, fun k hk => ?_⟩
    obtain ⟨k, rfl⟩ : ∃ m, k = m + 1 := ⟨k - 1, by omega⟩
    simp only [burnbagref04_Ints.l0]
    rw [if_pos (by omega), if_pos (by omega), if_pos (by omega), if_pos trivial, wrapN i (by omega)]
    exact h0 k (by omega)
theorem ints_ev (a : List Int) (ha : a.length ≤ 100000) : Ev (fun k => burnbagref04_Ints.f k a a) true := by
  obtain ⟨k0, h0⟩ := ints_to a ha a.length 0 (by omega) (by omega)
  refine ⟨k0, fun k hk => ?_⟩
  simp only [burnbagref04_Ints.f]
  rw [if_pos trivial]
  exact h0 k hk

abbrev ahF (a b : S38) : Option Bool := burnbagref14_Ahead.f a.f0 a.f1.f0 a.f1.f1 a.f1.f2 a.f1.f3.f0 a.f1.f3.f1 a.f1.f4 a.f1.f5 a.f2.f0 a.f2.f1.f0 a.f2.f1.f1 a.f2.f2 a.f2.f3 a.f2.f4 a.f3 a.f4 b.f0 b.f1.f0 b.f1.f1 b.f1.f2 b.f1.f3.f0 b.f1.f3.f1 b.f1.f4 b.f1.f5 b.f2.f0 b.f2.f1.f0 b.f2.f1.f1 b.f2.f2 b.f2.f3 b.f2.f4 b.f3 b.f4
theorem ahF_eq (a b : S38) : ahF a b = some (ahB a b) := by
  unfold ahF burnbagref14_Ahead.f ahB
  by_cases h : a.f4 ≥ 0
  · rw [if_pos h, decide_eq_true (show 0 ≤ a.f4 from h), Bool.true_and]
  · rw [if_neg h, decide_eq_false (show ¬ 0 ≤ a.f4 from h), Bool.false_and]

theorem idx_nodup {o : List Int} (hn : o.Nodup) (j : Nat) (hj : j < o.length) : o.idxOf o[j] = j := List.Nodup.idxOf_getElem hn j hj
theorem may2 {l : List S38} {o : List Int} (hn : l.length ≤ 100000) (ho : o.length ≤ 100000) (hok : okF l.length o = true) (i : Nat) (hi : i < l.length) (r1 : Bool) (h1 : Ev (fun k => burnbagref16_May.l1 k l o ((i + 1 : Nat) : Int)) r1) (d : Nat) :
    ∀ j : Nat, j ≤ o.length → o.length - j = d → Ev (fun k => burnbagref16_May.l2 k l o i (inF o i) j) ((o.drop j).all (fun y => passB l o i y) && r1) := by
  have hv := of_decide_eq_true hok
  induction d with
  | zero =>
    intro j hj hd
    obtain ⟨k0, h0⟩ := h1
    refine ⟨k0 + 1, fun k hk => ?_⟩
    obtain ⟨k, rfl⟩ : ∃ m, k = m + 1 := ⟨k - 1, by omega⟩
    simp only [burnbagref16_May.l2]
    rw [if_neg (by omega), wrapN i (by omega)]
    have : o.drop j = [] := List.drop_eq_nil_of_le (by omega)
    rw [this]
    simpa using h0 k (by omega)
  | succ d ih =>
    intro j hj hd
    have hlt : j < o.length := by omega
    obtain ⟨k0, h0⟩ := ih (j + 1) (by omega) (by omega)
    have hy := hv.1 o[j] (List.getElem_mem hlt)
    have hx : rd o (j : Int) = o[j] := rd_nat o j hlt
    have hdrop : o.drop j = o[j] :: o.drop (j + 1) := List.drop_eq_getElem_cons hlt
    have hat : atF l.length o o[j] = (j : Int) + 1 := by
      rw [inF_at hy.1 hy.2, inF, if_pos (List.getElem_mem hlt), idx_nodup hv.2 j hlt]
    have hai : atF l.length o (i : Int) = inF o i + 1 := inF_at (by omega) (by omega)
    refine ⟨k0 + 1, fun k hk => ?_⟩
    obtain ⟨k, rfl⟩ : ∃ m, k = m + 1 := ⟨k - 1, by omega⟩
    simp only [burnbagref16_May.l2]
    rw [if_pos (by omega), if_pos (by omega), if_pos (by omega), if_pos (by omega), hx, if_pos hy.1, if_pos hy.2]
    have ha := ahF_eq (rd_T38 l (i : Int)) (rd_T38 l o[j])
    unfold ahF at ha
    rw [ha, hdrop, List.all_cons]
    simp only [Option.bind_some]
    cases hA : ahB (rd_T38 l (i : Int)) (rd_T38 l o[j]) with
    | false =>
      have hp : passB l o i o[j] = true := by simp [passB, hA]
      rw [hp, if_neg (by decide), wrapN j (by omega), Bool.true_and]
      exact h0 k (by omega)
    | true =>
      rw [if_pos rfl]
      by_cases hneg : inF o i < 0
      · rw [if_pos hneg]
        have hz : atF l.length o (i : Int) = 0 := by have := atF_nonneg l.length o (i : Int); omega
        have hp : passB l o i o[j] = false := by simp [passB, hA, hz]
        rw [hp]; rfl
      · rw [if_neg hneg]
        by_cases hgt : inF o i > (j : Int)
        · rw [if_pos hgt]
          have hp : passB l o i o[j] = false := by
            unfold passB
            rw [hA, hat, hai, decide_eq_true (show (j : Int) + 1 < inF o i + 1 by omega)]
            simp
          rw [hp]; rfl
        · rw [if_neg hgt, wrapN j (by omega)]
          have hp : passB l o i o[j] = true := by
            unfold passB
            rw [hA, hat, hai, decide_eq_false (show ¬ (j : Int) + 1 < inF o i + 1 by omega), decide_eq_false (show ¬ inF o i + 1 = 0 by omega)]
            rfl
          rw [hp, Bool.true_and]
          exact h0 k (by omega)
theorem may1 {l : List S38} {o : List Int} (hn : l.length ≤ 100000) (ho : o.length ≤ 100000) (hok : okF l.length o = true) (d : Nat) :
    ∀ i : Nat, i ≤ l.length → l.length - i = d → Ev (fun k => burnbagref16_May.l1 k l o i) ((List.range' i d).all (fun k => rowOK l o (k : Int))) := by
  induction d with
  | zero =>
    intro i hi hd
    refine ⟨1, fun k hk => ?_⟩
    obtain ⟨k, rfl⟩ : ∃ m, k = m + 1 := ⟨k - 1, by omega⟩
    simp only [burnbagref16_May.l1]
    rw [if_neg (by omega)]
    rfl
  | succ d ih =>
    intro i hi hd
    obtain ⟨k0, h0⟩ := may2 hn ho hok i (by omega) _ (ih (i + 1) (by omega) (by omega)) o.length 0 (by omega) (by omega)
    obtain ⟨k1, h1⟩ := in_k o (i : Int) ho
    rw [List.drop_zero] at h0
    have hai : atF l.length o (i : Int) = inF o i + 1 := inF_at (by omega) (by omega)
    have hnn := atF_nonneg l.length o (i : Int)
    refine ⟨k0 + k1 + 2, fun k hk => ?_⟩
    obtain ⟨k, rfl⟩ : ∃ m, k = m + 2 := ⟨k - 2, by omega⟩
    simp only [burnbagref16_May.l1]
    rw [if_pos (by omega), h1 (k + 1) (by omega)]
    simp only [Option.bind_some]
    rw [List.range'_succ, List.all_cons]
    have e2 := h0 k (by omega)
    by_cases hneg : inF o (i : Int) < 0
    · rw [if_pos hneg, if_pos (by omega)]
      have hz : atF l.length o (i : Int) = 0 := by omega
      simp only [burnbagref16_May.j2]
      by_cases ht : (rd_T38 l (i : Int)).f4 ≥ 0
      · rw [if_pos (decide_eq_true ht), row_bad0 hz ht]; rfl
      · rw [if_neg (by simpa using ht)]
        have hr : rowOK l o (i : Int) = o.all (fun y => passB l o i y) := by
          unfold rowOK
          rw [decide_eq_false (show ¬ 0 ≤ (rd_T38 l (i : Int)).f4 from ht), Bool.and_false, Bool.not_false, Bool.true_and]
        rw [hr]
        exact e2
    · rw [if_neg hneg]
      simp only [burnbagref16_May.j2]
      rw [if_neg (by decide)]
      have hr : rowOK l o (i : Int) = o.all (fun y => passB l o i y) := by
        unfold rowOK
        rw [decide_eq_false (show ¬ atF l.length o (i : Int) = 0 by omega), Bool.false_and, Bool.not_false, Bool.true_and]
      rw [hr]
      exact e2
def goodAt (n : Nat) (o : List Int) (j : Nat) : Prop := 0 ≤ rd o j ∧ rd o j < n ∧ inF o (rd o j) = j
theorem ok_of_good {n : Nat} {o : List Int} (h : ∀ j : Nat, j < o.length → goodAt n o j) : okF n o = true := by
  apply decide_eq_true
  refine ⟨fun y hy => ?_, ?_⟩
  · obtain ⟨j, hj, rfl⟩ := List.mem_iff_getElem.1 hy
    have := h j hj
    unfold goodAt at this
    rw [rd_nat o j hj] at this
    exact ⟨this.1, this.2.1⟩
  · rw [List.nodup_iff_pairwise_ne, List.pairwise_iff_getElem]
    intro i j hi hj hij e
    have a := (h i hi).2.2
    have b := (h j hj).2.2
    rw [rd_nat o i hi] at a
    rw [rd_nat o j hj, ← e, a] at b
    omega
theorem good_of_ok {n : Nat} {o : List Int} (h : okF n o = true) (j : Nat) (hj : j < o.length) : goodAt n o j := by
  have hv := of_decide_eq_true h
  unfold goodAt
  rw [rd_nat o j hj]
  have := hv.1 o[j] (List.getElem_mem hj)
  refine ⟨this.1, this.2, ?_⟩
  rw [inF, if_pos (List.getElem_mem hj), idx_nodup hv.2 j hj]
theorem may0_ok {l : List S38} {o : List Int} (ho : o.length ≤ 100000) (hok : okF l.length o = true) (r1 : Bool) (h1 : Ev (fun k => burnbagref16_May.l1 k l o 0) r1) (d : Nat) :
    ∀ i : Nat, i ≤ o.length → o.length - i = d → Ev (fun k => burnbagref16_May.l0 k l o i) r1 := by
  induction d with
  | zero =>
    intro i hi hd
    obtain ⟨k0, h0⟩ := h1
    refine ⟨k0 + 1, fun k hk => ?_⟩
    obtain ⟨k, rfl⟩ : ∃ m, k = m + 1 := ⟨k - 1, by omega⟩
    simp only [burnbagref16_May.l0]
    rw [if_neg (by omega)]
    exact h0 k (by omega)
  | succ d ih =>
    intro i hi hd
    obtain ⟨k0, h0⟩ := ih (i + 1) (by omega) (by omega)
    obtain ⟨k1, h2⟩ := in_k o (rd o (i : Int)) ho
    obtain ⟨g0, g1, g2⟩ := good_of_ok hok i (by omega)
    refine ⟨k0 + k1 + 1, fun k hk => ?_⟩
    obtain ⟨k, rfl⟩ : ∃ m, k = m + 1 := ⟨k - 1, by omega⟩
    simp only [burnbagref16_May.l0]
    rw [if_pos (by omega), if_pos (by omega), if_neg (by omega), if_neg (by omega), h2 k (by omega)]
    simp only [Option.bind_some]
    rw [if_pos g2, wrapN i (by omega)]
    exact h0 k (by omega)
theorem may0_bad {l : List S38} {o : List Int} (ho : o.length ≤ 100000) (d : Nat) :
    ∀ i : Nat, i ≤ o.length → o.length - i = d → (∃ j : Nat, i ≤ j ∧ j < o.length ∧ ¬ goodAt l.length o j) → Ev (fun k => burnbagref16_May.l0 k l o i) false := by
  induction d with
  | zero => rintro i hi hd ⟨j, h1, h2, _⟩; omega
  | succ d ih =>
    rintro i hi hd ⟨j, hj1, hj2, hj3⟩
    obtain ⟨k1, h2⟩ := in_k o (rd o (i : Int)) ho
    by_cases hgi : goodAt l.length o i
    · obtain ⟨g0, g1, g2⟩ := hgi
      obtain ⟨k0, h0⟩ := ih (i + 1) (by omega) (by omega) ⟨j, by
        rcases Nat.lt_or_ge i j with h | h
        · exact h
        · have : j = i := by omega
          subst this; exact absurd ⟨g0, g1, g2⟩ hj3, hj2, hj3⟩
      refine ⟨k0 + k1 + 1, fun k hk => ?_⟩
      obtain ⟨k, rfl⟩ : ∃ m, k = m + 1 := ⟨k - 1, by omega⟩
      simp only [burnbagref16_May.l0]
      rw [if_pos (by omega), if_pos (by omega), if_neg (by omega), if_neg (by omega), h2 k (by omega)]
      simp only [Option.bind_some]
      rw [if_pos g2, wrapN i (by omega)]
      exact h0 k (by omega)
    · refine ⟨k1 + 1, fun k hk => ?_⟩
      obtain ⟨k, rfl⟩ : ∃ m, k = m + 1 := ⟨k - 1, by omega⟩
      simp only [burnbagref16_May.l0]
      rw [if_pos (by omega), if_pos (by omega)]
      by_cases a : rd o (i : Int) < 0
      · rw [if_pos a]
      · rw [if_neg a]
        by_cases b : rd o (i : Int) ≥ (l.length : Int)
        · rw [if_pos b]
        · rw [if_neg b, h2 k (by omega)]
          simp only [Option.bind_some]
          rw [if_neg (fun c => hgi ⟨by omega, by omega, c⟩)]
theorem may_ev {l : List S38} {o : List Int} (hn : l.length ≤ 100000) (ho : o.length ≤ 100000) : Ev (fun k => burnbagref16_May.f k l o) (mayB l o) := by
  cases hok : okF l.length o with
  | false =>
    rw [mayB_bad hok]
    refine may0_bad (l := l) ho o.length 0 (by omega) (by omega) ?_
    by_cases hex : ∃ j : Nat, 0 ≤ j ∧ j < o.length ∧ ¬ goodAt l.length o j
    · exact hex
    · have : okF l.length o = true := ok_of_good fun j hj => by
        by_cases hg : goodAt l.length o j
        · exact hg
        · exact absurd ⟨j, by omega, hj, hg⟩ hex
      rw [hok] at this; cases this
  | true =>
    have := may0_ok ho hok _ (may1 hn ho hok l.length 0 (by omega) (by omega)) o.length 0 (by omega) (by omega)
    have e : mayB l o = (List.range' 0 l.length).all (fun k => rowOK l o (k : Int)) := by
      unfold mayB
      rw [hok, Bool.true_and, List.range_eq_range']
    rw [e]
    exact this

theorem next1 {l : List S38} {o : List Int} (hn : l.length ≤ 100000) (ho : o.length ≤ 100000) (acc : List Int) (hacc : acc.length ≤ 100000) (i : Nat) (hi : i < l.length) (r : List Int)
    (hT : Ev (fun k => burnbagref16_Next.l0 k l o (acc ++ [(i : Int)]) ((i + 1 : Nat) : Int)) r ∨ True) (d : Nat) :
    ∀ (j : Nat) (fl : Bool), j ≤ l.length → l.length - j = d →
      ((fl && (List.range' j d).all (fun k => freeB l o i (k : Int))) = true → Ev (fun k => burnbagref16_Next.l0 k l o (acc ++ [(i : Int)]) ((i + 1 : Nat) : Int)) r) →
      ((fl && (List.range' j d).all (fun k => freeB l o i (k : Int))) = false → Ev (fun k => burnbagref16_Next.l0 k l o acc ((i + 1 : Nat) : Int)) r) →
      Ev (fun k => burnbagref16_Next.l1 k l o acc i fl j) r := by
  clear hT
  induction d with
  | zero =>
    intro j fl hj hd h1 h2
    cases fl with
    | true =>
      obtain ⟨k0, h0⟩ := h1 rfl
      refine ⟨k0 + 1, fun k hk => ?_⟩
      obtain ⟨k, rfl⟩ : ∃ m, k = m + 1 := ⟨k - 1, by omega⟩
      simp only [burnbagref16_Next.l1]
      rw [if_neg (by omega), if_pos trivial, if_pos (by omega), wrapN i (by omega)]
      exact h0 k (by omega)
    | false =>
      obtain ⟨k0, h0⟩ := h2 rfl
      refine ⟨k0 + 1, fun k hk => ?_⟩
      obtain ⟨k, rfl⟩ : ∃ m, k = m + 1 := ⟨k - 1, by omega⟩
      simp only [burnbagref16_Next.l1]
      rw [if_neg (by omega), if_neg (by decide), wrapN i (by omega)]
      exact h0 k (by omega)
  | succ d ih =>
    intro j fl hj hd h1 h2
    rw [List.range'_succ, List.all_cons] at h1 h2
    have hnn := atF_nonneg l.length o (j : Int)
    have haj : atF l.length o (j : Int) = inF o j + 1 := inF_at (by omega) (by omega)
    obtain ⟨k1, hin⟩ := in_k o (j : Int) ho
    by_cases hji : j = i
    · have hf : freeB l o i (j : Int) = true := by subst hji; simp [freeB]
      rw [hf, Bool.true_and] at h1 h2
      obtain ⟨k0, h0⟩ := ih (j + 1) fl (by omega) (by omega) h1 h2
      refine ⟨k0 + 1, fun k hk => ?_⟩
      obtain ⟨k, rfl⟩ : ∃ m, k = m + 1 := ⟨k - 1, by omega⟩
      simp only [burnbagref16_Next.l1]
      rw [if_pos (by omega), if_pos (by omega), wrapN j (by omega)]
      exact h0 k (by omega)
    · by_cases hneg : inF o (j : Int) < 0
      · have ha := ahF_eq (rd_T38 l (j : Int)) (rd_T38 l (i : Int))
        unfold ahF at ha
        cases hA : ahB (rd_T38 l (j : Int)) (rd_T38 l (i : Int)) with
        | true =>
          have hf : freeB l o i (j : Int) = false := by
            unfold freeB
            rw [decide_eq_true (show atF l.length o (j : Int) = 0 by omega), decide_eq_true (show (j : Int) ≠ (i : Int) by omega), hA]
            rfl
          rw [hf, Bool.false_and, Bool.and_false] at h1 h2
          obtain ⟨k0, h0⟩ := ih (j + 1) false (by omega) (by omega) (fun e => by simp at e) (fun _ => h2 rfl)
          refine ⟨k0 + k1 + 1, fun k hk => ?_⟩
          obtain ⟨k, rfl⟩ : ∃ m, k = m + 1 := ⟨k - 1, by omega⟩
          simp only [burnbagref16_Next.l1]
          rw [if_pos (by omega), if_neg (by omega), hin k (by omega)]
          simp only [Option.bind_some]
          rw [if_pos hneg, if_pos (by omega), if_pos (by omega), if_pos (by omega), ha, hA]
          simp only [Option.bind_some]
          rw [if_pos trivial, wrapN j (by omega)]
          exact h0 k (by omega)
        | false =>
          have hf : freeB l o i (j : Int) = true := by simp [freeB, hA]
          rw [hf, Bool.true_and] at h1 h2
          obtain ⟨k0, h0⟩ := ih (j + 1) fl (by omega) (by omega) h1 h2
          refine ⟨k0 + k1 + 1, fun k hk => ?_⟩
          obtain ⟨k, rfl⟩ : ∃ m, k = m + 1 := ⟨k - 1, by omega⟩
          simp only [burnbagref16_Next.l1]
          rw [if_pos (by omega), if_neg (by omega), hin k (by omega)]
          simp only [Option.bind_some]
          rw [if_pos hneg, if_pos (by omega), if_pos (by omega), if_pos (by omega), ha, hA]
          simp only [Option.bind_some]
          rw [if_neg (by decide), wrapN j (by omega)]
          exact h0 k (by omega)
      · have hf : freeB l o i (j : Int) = true := by
          unfold freeB
          rw [decide_eq_false (show ¬ atF l.length o (j : Int) = 0 by omega)]
          rfl
        rw [hf, Bool.true_and] at h1 h2
        obtain ⟨k0, h0⟩ := ih (j + 1) fl (by omega) (by omega) h1 h2
        refine ⟨k0 + k1 + 1, fun k hk => ?_⟩
        obtain ⟨k, rfl⟩ : ∃ m, k = m + 1 := ⟨k - 1, by omega⟩
        simp only [burnbagref16_Next.l1]
        rw [if_pos (by omega), if_neg (by omega), hin k (by omega)]
        simp only [Option.bind_some]
        rw [if_neg hneg, wrapN j (by omega)]
        exact h0 k (by omega)
theorem next0 {l : List S38} {o : List Int} (hn : l.length ≤ 100000) (ho : o.length ≤ 100000) (d : Nat) :
    ∀ i : Nat, i ≤ l.length → l.length - i = d → Ev (fun k => burnbagref16_Next.l0 k l o (nextTo l o i) i) (nextL l o) := by
  induction d with
  | zero =>
    intro i hi hd
    refine ⟨1, fun k hk => ?_⟩
    obtain ⟨k, rfl⟩ : ∃ m, k = m + 1 := ⟨k - 1, by omega⟩
    simp only [burnbagref16_Next.l0]
    rw [if_neg (by omega)]
    have : i = l.length := by omega
    subst this
    rfl
  | succ d ih =>
    intro i hi hd
    have hnn := atF_nonneg l.length o (i : Int)
    have hai : atF l.length o (i : Int) = inF o i + 1 := inF_at (by omega) (by omega)
    obtain ⟨k1, hin⟩ := in_k o (i : Int) ho
    have hs := nextTo_succ l o i
    have hlen := nextTo_len l o i
    have hih := ih (i + 1) (by omega) (by omega)
    by_cases hneg : inF o (i : Int) ≥ 0
    · rw [nextB_bad0 (show ¬ atF l.length o (i : Int) = 0 by omega)] at hs
      simp only [Bool.false_eq_true, if_false, List.append_nil] at hs
      rw [hs] at hih
      obtain ⟨k0, h0⟩ := hih
      refine ⟨k0 + k1 + 1, fun k hk => ?_⟩
      obtain ⟨k, rfl⟩ : ∃ m, k = m + 1 := ⟨k - 1, by omega⟩
      simp only [burnbagref16_Next.l0]
      rw [if_pos (by omega), hin k (by omega)]
      simp only [Option.bind_some]
      rw [if_pos hneg, wrapN i (by omega)]
      exact h0 k (by omega)
    · have hz : atF l.length o (i : Int) = 0 := by omega
      have e : nextB l o (i : Int) = (true && (List.range' 0 l.length).all (fun k => freeB l o i (k : Int))) := by
        unfold nextB
        rw [decide_eq_true hz, List.range_eq_range']
      obtain ⟨k0, h0⟩ := next1 hn ho (nextTo l o i) (by omega) i (by omega) (nextL l o) (.inr trivial) l.length 0 true (by omega) (by omega)
        (fun ht => by rw [← e] at ht; rw [ht] at hs; simp only [if_true] at hs; rw [hs] at hih; exact hih)
        (fun ht => by rw [← e] at ht; rw [ht] at hs; simp only [Bool.false_eq_true, if_false, List.append_nil] at hs; rw [hs] at hih; exact hih)
      refine ⟨k0 + k1 + 1, fun k hk => ?_⟩
      obtain ⟨k, rfl⟩ : ∃ m, k = m + 1 := ⟨k - 1, by omega⟩
      simp only [burnbagref16_Next.l0]
      rw [if_pos (by omega), hin k (by omega)]
      simp only [Option.bind_some]
      rw [if_neg hneg]
      exact h0 k (by omega)
theorem next_ev {l : List S38} {o : List Int} (hn : l.length ≤ 100000) (ho : o.length ≤ 100000) : Ev (fun k => burnbagref16_Next.f k l o) (nextL l o) :=
  next0 hn ho l.length 0 (by omega) (by omega)
end Go.Proofs.YtphbnfjamclmjaaGreatDoor
