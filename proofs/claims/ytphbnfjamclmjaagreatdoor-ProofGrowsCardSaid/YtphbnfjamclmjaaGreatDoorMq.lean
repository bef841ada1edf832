import Derived.Test.YtphbnfjamclmjaaGreatDoorPProofMayx0
import Derived.Test.YtphbnfjamclmjaaGreatDoorMp
/- The plain law of stage 16: which orders may be, which opers may come next, and that whatever comes next, step by step, ends in an order that may be. No walk in sight. -/
namespace Go.Proofs.YtphbnfjamclmjaaGreatDoor
open Go.RowKit Go.Maps Go.Proofs.YtphbnfjamclmjaaGreatDoorW.PrintWords Go.Proofs.YtphbnfjamclmjaaGreatDoor.PProofMay
set_option linter.unusedVariables false
set_option linter.unusedSimpArgs false

def ahB (a b : S38) : Bool := decide (0 ≤ a.f4) && decide (a.f4 < b.f3)
def passB (l : List S38) (o : List Int) (k y : Int) : Bool := !(ahB (rd_T38 l k) (rd_T38 l y) && (decide (atF l.length o k = 0) || decide (atF l.length o y < atF l.length o k)))
def rowOK (l : List S38) (o : List Int) (k : Int) : Bool := !(decide (atF l.length o k = 0) && decide (0 ≤ (rd_T38 l k).f4)) && o.all (fun y => passB l o k y)
def mayB (l : List S38) (o : List Int) : Bool := okF l.length o && (List.range l.length).all (fun k => rowOK l o (k : Int))
theorem mayB_bad {l : List S38} {o : List Int} (h : okF l.length o = false) : mayB l o = false := by simp [mayB, h]
theorem mayB_row {l : List S38} {o : List Int} (k : Nat) (hk : k < l.length) (h : rowOK l o k = false) : mayB l o = false := by
  unfold mayB
  rw [Bool.and_eq_false_iff]
  right
  rw [List.all_eq_false]
  exact ⟨k, List.mem_range.2 hk, by simp [h]⟩
theorem mayB_all {l : List S38} {o : List Int} (ho : okF l.length o = true) (h : ∀ k : Nat, k < l.length → rowOK l o k = true) : mayB l o = true := by
  unfold mayB
  rw [ho, Bool.true_and, List.all_eq_true]
  exact fun k hk => h k (List.mem_range.1 hk)
theorem row_of {l : List S38} {o : List Int} {k : Int} (ho : okF l.length o = true) (h0 : ¬ (atF l.length o k = 0 ∧ 0 ≤ (rd_T38 l k).f4)) (h : ∀ y, 0 < atF l.length o y → passB l o k y = true) : rowOK l o k = true := by
  have hv := of_decide_eq_true ho
  unfold rowOK
  rw [Bool.and_eq_true, List.all_eq_true]
  refine ⟨by by_cases a : atF l.length o k = 0 <;> by_cases b : 0 ≤ (rd_T38 l k).f4 <;> simp_all, fun y hy => h y (atF_pos.2 ⟨(hv.1 y hy).1, (hv.1 y hy).2, hy⟩)⟩
theorem row_bad0 {l : List S38} {o : List Int} {k : Int} (h0 : atF l.length o k = 0) (h1 : 0 ≤ (rd_T38 l k).f4) : rowOK l o k = false := by simp [rowOK, h0, h1]
theorem row_bad1 {l : List S38} {o : List Int} {k : Int} (y : Int) (hy : 0 < atF l.length o y) (h : passB l o k y = false) : rowOK l o k = false := by
  unfold rowOK
  rw [Bool.and_eq_false_iff]
  right
  rw [List.all_eq_false]
  exact ⟨y, (atF_pos.1 hy).2.2, by simp [h]⟩

/-- Which may come next. -/
def freeB (l : List S38) (o : List Int) (i k : Int) : Bool := !(decide (atF l.length o k = 0) && decide (k ≠ i) && ahB (rd_T38 l k) (rd_T38 l i))
def nextB (l : List S38) (o : List Int) (i : Int) : Bool := decide (atF l.length o i = 0) && (List.range l.length).all (fun k => freeB l o i (k : Int))
def nextTo (l : List S38) (o : List Int) (m : Nat) : List Int := ((List.range m).filter (fun (i : Nat) => nextB l o (i : Int))).map (fun (i : Nat) => (i : Int))
def nextL (l : List S38) (o : List Int) : List Int := nextTo l o l.length
theorem nextTo_succ (l : List S38) (o : List Int) (m : Nat) : nextTo l o (m + 1) = nextTo l o m ++ (if nextB l o m then [(m : Int)] else []) := by
  unfold nextTo
  rw [List.range_succ, List.filter_append, List.map_append]
  cases h : nextB l o (m : Int) <;> simp [h]
theorem nextTo_len (l : List S38) (o : List Int) (m : Nat) : (nextTo l o m).length ≤ m := by
  unfold nextTo
  rw [List.length_map]
  exact Nat.le_trans (List.length_filter_le _ _) (by simp)
theorem nextTo_in {l : List S38} {o : List Int} {m : Nat} {x : Int} (h : x ∈ nextTo l o m) : 0 ≤ x ∧ x < m ∧ nextB l o x = true := by
  unfold nextTo at h
  rw [List.mem_map] at h
  obtain ⟨i, hi, rfl⟩ := h
  rw [List.mem_filter, List.mem_range] at hi
  exact ⟨by omega, by omega, hi.2⟩
theorem nextTo_mem {l : List S38} {o : List Int} {m i : Nat} (hi : i < m) (h : nextB l o i = true) : (i : Int) ∈ nextTo l o m := by
  unfold nextTo
  rw [List.mem_map]
  exact ⟨i, List.mem_filter.2 ⟨List.mem_range.2 hi, h⟩, rfl⟩
theorem nextB_iff {l : List S38} {o : List Int} {i : Int} : nextB l o i = true ↔ atF l.length o i = 0 ∧ ∀ k : Nat, k < l.length → atF l.length o k = 0 → (k : Int) ≠ i → ahB (rd_T38 l k) (rd_T38 l i) = false := by
  unfold nextB
  rw [Bool.and_eq_true, List.all_eq_true, decide_eq_true_eq]
  constructor
  · rintro ⟨a, b⟩
    refine ⟨a, fun k hk h0 hne => ?_⟩
    have := b k (List.mem_range.2 hk)
    unfold freeB at this
    rw [decide_eq_true h0, decide_eq_true hne] at this
    simpa using this
  · rintro ⟨a, b⟩
    refine ⟨a, fun k hk => ?_⟩
    unfold freeB
    by_cases h0 : atF l.length o k = 0
    · by_cases hne : (k : Int) ≠ i
      · rw [b k (List.mem_range.1 hk) h0 hne]; simp
      · rw [decide_eq_false hne]; simp
    · rw [decide_eq_false h0]; simp
theorem nextB_bad0 {l : List S38} {o : List Int} {i : Int} (h : ¬ atF l.length o i = 0) : nextB l o i = false := by simp [nextB, h]
theorem nextB_bad1 {l : List S38} {o : List Int} {i : Int} (k : Nat) (hk : k < l.length) (h : freeB l o i k = false) : nextB l o i = false := by
  unfold nextB
  rw [Bool.and_eq_false_iff]
  right
  rw [List.all_eq_false]
  exact ⟨k, List.mem_range.2 hk, by simp [h]⟩
theorem nextB_all {l : List S38} {o : List Int} {i : Int} (h0 : atF l.length o i = 0) (h : ∀ k : Nat, k < l.length → freeB l o i k = true) : nextB l o i = true := by
  unfold nextB
  rw [decide_eq_true h0, Bool.true_and, List.all_eq_true]
  exact fun k hk => h k (List.mem_range.1 hk)

theorem len_le_of_sub : ∀ {a b : List Int}, a.Nodup → (∀ x ∈ a, x ∈ b) → a.length ≤ b.length := by
  intro a
  induction a with
  | nil => intro b _ _; simp
  | cons x a ih =>
    intro b hn hs
    rw [List.nodup_cons] at hn
    have hx : x ∈ b := hs x (by simp)
    have := ih (b := b.erase x) hn.2 (fun y hy => (List.mem_erase_of_ne (fun (e : y = x) => hn.1 (by rw [← e]; exact hy))).2 (hs y (by simp [hy])))
    rw [List.length_erase_of_mem hx] at this
    have : 0 < b.length := List.length_pos_of_mem hx
    simp only [List.length_cons]
    omega
theorem len_lt_of_sub {a b : List Int} {c : Int} (hn : a.Nodup) (hs : ∀ x ∈ a, x ∈ b) (hc : c ∈ b) (hc' : c ∉ a) : a.length < b.length := by
  have := len_le_of_sub (a := c :: a) (b := b) (List.nodup_cons.2 ⟨hc', hn⟩) (fun x hx => by
    rcases List.mem_cons.1 hx with rfl | hx
    · exact hc
    · exact hs x hx)
  simp only [List.length_cons] at this
  omega

def ansB (l : List S38) (i : Int) : Bool := decide (0 ≤ (rd_T38 l i).f4)
def allI (n : Nat) : List Int := (List.range n).map (fun i : Nat => (i : Int))
theorem mem_allI {n : Nat} {x : Int} : x ∈ allI n ↔ 0 ≤ x ∧ x < n := by
  unfold allI
  rw [List.mem_map]
  constructor
  · rintro ⟨i, hi, rfl⟩
    have := List.mem_range.1 hi
    omega
  · rintro ⟨a, b⟩
    exact ⟨x.toNat, List.mem_range.2 (by omega), by omega⟩
theorem allI_len (n : Nat) : (allI n).length = n := by simp [allI]
theorem allI_nodup (n : Nat) : (allI n).Nodup := by
  unfold allI
  rw [List.nodup_iff_pairwise_ne, List.pairwise_map]
  exact (List.nodup_iff_pairwise_ne.1 List.nodup_range).imp (fun h e => h (by omega))
/-- how many are answered -/
def done (l : List S38) : Nat := ((allI l.length).filter (ansB l)).length
def inn (l : List S38) (o : List Int) : Nat := (o.filter (ansB l)).length
theorem inn_nil (l : List S38) : inn l [] = 0 := rfl
theorem inn_snoc (l : List S38) (o : List Int) (x : Int) : inn l (o ++ [x]) = inn l o + if 0 ≤ (rd_T38 l x).f4 then 1 else 0 := by
  unfold inn
  rw [List.filter_append, List.length_append]
  by_cases h : 0 ≤ (rd_T38 l x).f4 <;> simp [ansB, h]

structure Good (l : List S38) : Prop where
  ok : ∀ i : Nat, i < l.length → 0 ≤ (rd_T38 l i).f4 → 0 ≤ (rd_T38 l i).f3 ∧ (rd_T38 l i).f3 < (rd_T38 l i).f4
structure Grown (l : List S38) (o : List Int) : Prop where
  valid : ∀ y ∈ o, 0 ≤ y ∧ y < (l.length : Int)
  nodup : o.Nodup
  ahead : ∀ y ∈ o, ∀ k : Int, 0 ≤ k → k < (l.length : Int) → ahB (rd_T38 l k) (rd_T38 l y) = true → k ≠ y → 0 < atF l.length o k ∧ atF l.length o k < atF l.length o y

theorem Grown.nil (l : List S38) : Grown l [] := ⟨by simp, by simp, by simp⟩
theorem Grown.okF {l : List S38} {o : List Int} (h : Grown l o) : okF l.length o = true := decide_eq_true ⟨h.valid, h.nodup⟩
theorem Grown.len {l : List S38} {o : List Int} (h : Grown l o) : o.length ≤ l.length := by
  have := len_le_of_sub (b := allI l.length) h.nodup (fun x hx => mem_allI.2 (h.valid x hx))
  rwa [allI_len] at this
theorem atF_zero {n : Nat} {o : List Int} {y : Int} (h : atF n o y = 0) (h0 : 0 ≤ y) (h1 : y < n) : y ∉ o := fun hm => by
  have := atF_pos.2 ⟨h0, h1, hm⟩
  omega
theorem Grown.step {l : List S38} {o : List Int} (h : Grown l o) {x : Int} (h0 : 0 ≤ x) (h1 : x < (l.length : Int)) (hx : nextB l o x = true) : Grown l (o ++ [x]) := by
  obtain ⟨hz, hf⟩ := nextB_iff.1 hx
  have hno := atF_zero hz h0 h1
  have hs := atF_snoc_good h0 h1 hz
  refine ⟨?_, ?_, ?_⟩
  · intro y hy
    rcases List.mem_append.1 hy with hy | hy
    · exact h.valid y hy
    · have : y = x := by simpa using hy
      subst this; exact ⟨h0, h1⟩
  · rw [List.nodup_append]
    refine ⟨h.nodup, by simp, fun a ha b hb => ?_⟩
    have : b = x := by simpa using hb
    subst this
    rintro rfl
    exact hno ha
  · intro y hy k k0 k1 hah hne
    have hlen := atF_le l.length o k
    rcases List.mem_append.1 hy with hy | hy
    · have hyx : y ≠ x := fun e => hno (e ▸ hy)
      obtain ⟨a, b⟩ := h.ahead y hy k k0 k1 hah hne
      have hkx : k ≠ x := fun e => by subst e; omega
      rw [hs k, hs y, if_neg hkx, if_neg hyx]
      exact ⟨a, b⟩
    · have hyx : y = x := by simpa using hy
      subst hyx
      rw [hs k, hs y, if_neg hne, if_pos rfl]
      have hnn := atF_nonneg l.length o k
      by_cases hk : atF l.length o k = 0
      · have := hf k.toNat (by omega) (by rw [show ((k.toNat : Nat) : Int) = k from by omega]; exact hk) (by omega)
        rw [show ((k.toNat : Nat) : Int) = k from by omega, hah] at this
        cases this
      · omega
theorem min_of (l : List S38) (p : Nat → Bool) : ∀ n, (∃ i, i < n ∧ p i = true) → ∃ i, i < n ∧ p i = true ∧ ∀ k, k < n → p k = true → (rd_T38 l i).f4 ≤ (rd_T38 l k).f4 := by
  intro n
  induction n with
  | zero => rintro ⟨i, hi, _⟩; omega
  | succ n ih =>
    intro hex
    by_cases hlow : ∃ i, i < n ∧ p i = true
    · obtain ⟨i, hi, hp, hm⟩ := ih hlow
      by_cases hn : p n = true ∧ (rd_T38 l n).f4 < (rd_T38 l i).f4
      · refine ⟨n, by omega, hn.1, fun k hk hpk => ?_⟩
        by_cases hkn : k = n
        · subst hkn; omega
        · have := hm k (by omega) hpk
          omega
      · refine ⟨i, by omega, hp, fun k hk hpk => ?_⟩
        by_cases hkn : k = n
        · subst hkn
          by_cases hlt : (rd_T38 l k).f4 < (rd_T38 l i).f4
          · exact absurd ⟨hpk, hlt⟩ hn
          · omega
        · exact hm k (by omega) hpk
    · obtain ⟨i, hi, hp⟩ := hex
      have hin : i = n := by
        rcases Nat.lt_or_ge i n with h | h
        · exact absurd ⟨i, h, hp⟩ hlow
        · omega
      subst hin
      refine ⟨i, by omega, hp, fun k hk hpk => ?_⟩
      have hkn : k = i := by
        rcases Nat.lt_or_ge k i with h | h
        · exact absurd ⟨k, h, hpk⟩ hlow
        · omega
      subst hkn
      omega
theorem Grown.next {l : List S38} {o : List Int} (h : Grown l o) (hg : Good l) (hlt : o.length < l.length) : nextL l o ≠ [] := by
  have hfree : ∃ i : Nat, i < l.length ∧ atF l.length o i = 0 := by
    by_cases hall : ∃ i : Nat, i < l.length ∧ atF l.length o i = 0
    · exact hall
    · have := len_le_of_sub (a := allI l.length) (b := o) (allI_nodup _) (fun x hx => by
        have hx' := mem_allI.1 hx
        have hnn := atF_nonneg l.length o x
        by_cases hz : atF l.length o x = 0
        · exact absurd ⟨x.toNat, by omega, by rw [show ((x.toNat : Nat) : Int) = x from by omega]; exact hz⟩ hall
        · exact (atF_pos (n := l.length).1 (by omega)).2.2)
      rw [allI_len] at this
      omega
  have key : ∃ i : Nat, i < l.length ∧ nextB l o i = true := by
    by_cases ha : ∃ i : Nat, i < l.length ∧ (decide (atF l.length o i = 0) && ansB l i) = true
    · obtain ⟨i, hi, hp, hm⟩ := min_of l (fun i => decide (atF l.length o i = 0) && ansB l i) l.length ha
      rw [Bool.and_eq_true, decide_eq_true_eq] at hp
      refine ⟨i, hi, nextB_iff.2 ⟨hp.1, fun k hk h0 hne => ?_⟩⟩
      unfold ahB
      by_cases hto : 0 ≤ (rd_T38 l k).f4
      · have := hm k hk (by simp only [Bool.and_eq_true, decide_eq_true_eq]; exact ⟨h0, decide_eq_true hto⟩)
        have h2 := hg.ok i hi (of_decide_eq_true hp.2)
        rw [decide_eq_false (by omega : ¬ (rd_T38 l k).f4 < (rd_T38 l i).f3), Bool.and_false]
      · rw [decide_eq_false hto, Bool.false_and]
    · obtain ⟨i, hi, hz⟩ := hfree
      refine ⟨i, hi, nextB_iff.2 ⟨hz, fun k hk h0 hne => ?_⟩⟩
      unfold ahB
      by_cases hto : 0 ≤ (rd_T38 l k).f4
      · exact absurd ⟨k, hk, by rw [Bool.and_eq_true, decide_eq_true_eq]; exact ⟨h0, decide_eq_true hto⟩⟩ ha
      · rw [decide_eq_false hto, Bool.false_and]
  obtain ⟨i, hi, hn⟩ := key
  intro e
  have := nextTo_mem (l := l) (o := o) (m := l.length) hi hn
  unfold nextL at e
  rw [e] at this
  cases this
theorem Grown.last {l : List S38} {o : List Int} (h : Grown l o) (hlen : o.length = l.length) : nextL l o = [] := by
  cases e : nextL l o with
  | nil => rfl
  | cons x t =>
    have hx := nextTo_in (l := l) (o := o) (m := l.length) (x := x) (by unfold nextL at e; rw [e]; simp)
    have hz := (nextB_iff.1 hx.2.2).1
    have := len_lt_of_sub (b := allI l.length) h.nodup (fun y hy => mem_allI.2 (h.valid y hy)) (mem_allI.2 ⟨hx.1, hx.2.1⟩) (atF_zero hz hx.1 hx.2.1)
    rw [allI_len] at this
    omega
theorem inn_iff {l : List S38} {o : List Int} (h : Grown l o) : inn l o = done l ↔ ∀ k : Nat, k < l.length → 0 ≤ (rd_T38 l k).f4 → ¬ atF l.length o k = 0 := by
  have hn : (o.filter (ansB l)).Nodup := h.nodup.filter _
  have hs : ∀ x ∈ o.filter (ansB l), x ∈ (allI l.length).filter (ansB l) := fun x hx => by
    rw [List.mem_filter] at hx ⊢
    exact ⟨mem_allI.2 (h.valid x hx.1), hx.2⟩
  constructor
  · intro e k hk ht hz
    have := len_lt_of_sub hn hs (c := (k : Int)) (List.mem_filter.2 ⟨mem_allI.2 ⟨by omega, by omega⟩, decide_eq_true ht⟩) (fun hm => atF_zero hz (by omega) (by omega) (List.mem_filter.1 hm).1)
    unfold inn done at e
    omega
  · intro hall
    have a := len_le_of_sub hn hs
    have b := len_le_of_sub (a := (allI l.length).filter (ansB l)) (b := o.filter (ansB l)) ((allI_nodup _).filter _) (fun x hx => by
      rw [List.mem_filter] at hx ⊢
      have hx' := mem_allI.1 hx.1
      have := hall x.toNat (by omega) (by rw [show ((x.toNat : Nat) : Int) = x from by omega]; exact of_decide_eq_true hx.2)
      rw [show ((x.toNat : Nat) : Int) = x from by omega] at this
      have hnn := atF_nonneg l.length o x
      exact ⟨(atF_pos (n := l.length).1 (by omega)).2.2, hx.2⟩)
    unfold inn done
    omega
theorem Grown.may {l : List S38} {o : List Int} (h : Grown l o) : mayB l o = decide (inn l o = done l) := by
  by_cases hall : inn l o = done l
  · rw [decide_eq_true hall]
    have hp := (inn_iff h).1 hall
    refine mayB_all h.okF fun k hk => row_of h.okF (fun ⟨a, b⟩ => hp k hk b a) fun y hy => ?_
    obtain ⟨y0, y1, hm⟩ := atF_pos.1 hy
    unfold passB
    by_cases hky : (k : Int) = y
    · rw [hky, decide_eq_false (by omega : ¬ atF l.length o y = 0), decide_eq_false (by omega : ¬ atF l.length o y < atF l.length o y)]
      simp
    · cases hah : ahB (rd_T38 l k) (rd_T38 l y) with
      | false => simp
      | true =>
        obtain ⟨a, b⟩ := h.ahead y hm k (by omega) (by omega) hah hky
        rw [decide_eq_false (by omega : ¬ atF l.length o k = 0), decide_eq_false (by omega : ¬ atF l.length o y < atF l.length o k)]
        simp
  · rw [decide_eq_false hall]
    have : ∃ k : Nat, k < l.length ∧ 0 ≤ (rd_T38 l k).f4 ∧ atF l.length o k = 0 := by
      by_cases hex : ∃ k : Nat, k < l.length ∧ 0 ≤ (rd_T38 l k).f4 ∧ atF l.length o k = 0
      · exact hex
      · exact absurd ((inn_iff h).2 fun k hk ht hz => hex ⟨k, hk, ht, hz⟩) hall
    obtain ⟨k, hk, ht, hz⟩ := this
    exact mayB_row k hk (row_bad0 hz ht)
end Go.Proofs.YtphbnfjamclmjaaGreatDoor
