import Derived.Maps.Views
import Derived.Maps.Ext
/- The plain mathematics of the places of an order: which number stands at which place first. No program in sight. -/
namespace Go.Proofs.YtphbnfjamclmjaaGreatDoor
set_option linter.unusedVariables false
set_option linter.unusedSimpArgs false

theorem idx_mem {y : Int} {t s : List Int} (h : y ∈ t) : (t ++ s).idxOf y = t.idxOf y := by rw [List.idxOf_append, if_pos h]
theorem idx_not {y : Int} {t s : List Int} (h : y ∉ t) : (t ++ s).idxOf y = s.idxOf y + t.length := by rw [List.idxOf_append, if_neg h]
def atF (n : Nat) (o : List Int) (y : Int) : Int := if 0 ≤ y ∧ y < n ∧ y ∈ o then (o.idxOf y : Int) + 1 else 0
def okF (n : Nat) (o : List Int) : Bool := decide ((∀ y ∈ o, 0 ≤ y ∧ y < n) ∧ o.Nodup)

theorem atF_nonneg (n : Nat) (o : List Int) (y : Int) : 0 ≤ atF n o y := by unfold atF; split <;> omega
theorem atF_le (n : Nat) (o : List Int) (y : Int) : atF n o y ≤ o.length := by
  unfold atF
  split
  · rename_i h
    have := List.idxOf_lt_length_of_mem h.2.2
    omega
  · omega
theorem atF_pos {n : Nat} {o : List Int} {y : Int} : 0 < atF n o y ↔ 0 ≤ y ∧ y < n ∧ y ∈ o := by
  unfold atF
  constructor
  · intro h
    by_cases hc : 0 ≤ y ∧ y < n ∧ y ∈ o
    · exact hc
    · rw [if_neg hc] at h; omega
  · intro h
    rw [if_pos h]; omega
theorem atF_nil (n : Nat) (y : Int) : atF n [] y = 0 := by simp [atF]
theorem okF_nil (n : Nat) : okF n [] = true := by simp [okF]
theorem atF_snoc_bad {n : Nat} {t : List Int} {x : Int} (h : x < 0 ∨ (n : Int) ≤ x ∨ 0 < atF n t x) : atF n (t ++ [x]) = atF n t := by
  funext y
  by_cases hy : 0 ≤ y ∧ y < n ∧ y ∈ t
  · rw [atF, if_pos ⟨hy.1, hy.2.1, List.mem_append_left _ hy.2.2⟩, atF, if_pos hy, idx_mem hy.2.2]
  · have h2 : ¬ (0 ≤ y ∧ y < n ∧ y ∈ t ++ [x]) := by
      rintro ⟨a, b, c⟩
      rcases List.mem_append.1 c with c | c
      · exact hy ⟨a, b, c⟩
      · have : y = x := by simpa using c
        subst this
        rcases h with h | h | h
        · omega
        · omega
        · exact hy (atF_pos.1 h)
    rw [atF, if_neg h2, atF, if_neg hy]
theorem atF_snoc_good {n : Nat} {t : List Int} {x : Int} (h0 : 0 ≤ x) (h1 : x < n) (h2 : atF n t x = 0) (y : Int) : atF n (t ++ [x]) y = if y = x then (t.length : Int) + 1 else atF n t y := by
  have hx : x ∉ t := fun hm => by
    have := atF_pos.2 ⟨h0, h1, hm⟩
    omega
  by_cases hy : y = x
  · subst hy
    rw [if_pos rfl, atF, if_pos ⟨h0, h1, by simp⟩, idx_not hx]
    simp
  · rw [if_neg hy]
    by_cases hm : 0 ≤ y ∧ y < n ∧ y ∈ t
    · rw [atF, if_pos ⟨hm.1, hm.2.1, List.mem_append_left _ hm.2.2⟩, atF, if_pos hm, idx_mem hm.2.2]
    · rw [atF, if_neg (fun ⟨a, b, c⟩ => by
        rcases List.mem_append.1 c with c | c
        · exact hm ⟨a, b, c⟩
        · exact hy (by simpa using c)), atF, if_neg hm]
theorem okF_snoc_bad {n : Nat} {t : List Int} {x : Int} (h : x < 0 ∨ (n : Int) ≤ x ∨ 0 < atF n t x) : okF n (t ++ [x]) = false := by
  unfold okF
  apply decide_eq_false
  rintro ⟨hv, hn⟩
  have hx := hv x (by simp)
  rcases h with h | h | h
  · omega
  · omega
  · have := (atF_pos.1 h).2.2
    rw [List.nodup_append] at hn
    exact hn.2.2 x this x (by simp) rfl
theorem okF_snoc_good {n : Nat} {t : List Int} {x : Int} (h0 : 0 ≤ x) (h1 : x < n) (h2 : atF n t x = 0) : okF n (t ++ [x]) = okF n t := by
  have hx : x ∉ t := fun hm => by
    have := atF_pos.2 ⟨h0, h1, hm⟩
    omega
  unfold okF
  apply decide_eq_decide.2
  constructor
  · rintro ⟨hv, hn⟩
    exact ⟨fun y hy => hv y (List.mem_append_left _ hy), (List.nodup_append.1 hn).1⟩
  · rintro ⟨hv, hn⟩
    refine ⟨fun y hy => ?_, ?_⟩
    · rcases List.mem_append.1 hy with hy | hy
      · exact hv y hy
      · have : y = x := by simpa using hy
        subst this; exact ⟨h0, h1⟩
    · rw [List.nodup_append]
      refine ⟨hn, by simp, fun a ha b hb => ?_⟩
      have : b = x := by simpa using hb
      subst this
      rintro rfl
      exact hx ha

/-- What the map holds: at each number its place, and nothing else. -/
structure Holds (n : Nat) (o : List Int) (D : DataW Unit) : Prop where
  isMap : Maps.IsMap D
  at_ : ∀ y : Int, D.atKey (.int .i64 y) (.lit (.int .i64 0)) = .lit (.int .i64 (atF n o y))
  has : ∀ kl, Maps.has D kl = true → ∃ y : Int, kl = .int .i64 y ∧ 0 < atF n o y
  back : ∀ y : Int, 0 < atF n o y → Maps.has D (.int .i64 y) = true

theorem Holds.nil (n : Nat) : Holds n [] (.map []) where
  isMap := ⟨[], rfl⟩
  at_ y := by rw [atF_nil]; rfl
  has kl h := by simp [Maps.has] at h
  back y h := by rw [atF_nil] at h; omega

theorem Holds.same {n : Nat} {o o' : List Int} {D : DataW Unit} (h : Holds n o D) (e : atF n o' = atF n o) : Holds n o' D where
  isMap := h.isMap
  at_ y := by rw [e]; exact h.at_ y
  has kl hk := by rw [e]; exact h.has kl hk
  back y hy := by rw [e] at hy; exact h.back y hy

theorem Holds.put {n : Nat} {t : List Int} {x : Int} {D : DataW Unit} (h : Holds n t D) (h0 : 0 ≤ x) (h1 : x < n) (h2 : atF n t x = 0) :
    Holds n (t ++ [x]) (D.put (.int .i64 x) (.lit (.int .i64 ((t.length : Int) + 1)))) where
  isMap := by obtain ⟨es, rfl⟩ := h.isMap; exact ⟨_, rfl⟩
  at_ y := by
    rw [atF_snoc_good h0 h1 h2]
    by_cases hy : y = x
    · subst hy; rw [if_pos rfl]; exact Maps.atKey_put_same h.isMap (by exact True.intro) _ _
    · rw [if_neg hy, Maps.atKey_put_other (by simpa using hy)]; exact h.at_ y
  has kl hk := by
    by_cases hkl : kl = .int .i64 x
    · exact ⟨x, hkl, by rw [atF_snoc_good h0 h1 h2, if_pos rfl]; omega⟩
    · rw [Maps.has_put_other hkl] at hk
      obtain ⟨y, rfl, hy⟩ := h.has kl hk
      refine ⟨y, rfl, ?_⟩
      rw [atF_snoc_good h0 h1 h2]
      split
      · omega
      · exact hy
  back y hy := by
    by_cases hyx : y = x
    · subst hyx; exact Maps.has_put_same h.isMap (by exact True.intro) _
    · rw [Maps.has_put_other (by simpa using hyx)]
      rw [atF_snoc_good h0 h1 h2, if_neg hyx] at hy
      exact h.back y hy
end Go.Proofs.YtphbnfjamclmjaaGreatDoor
