import Derived.Test.YtphbnfjamclmjaaGreatDoorRows
import Derived.Test.YtphbnfjamclmjaaGreatDoorMd
import Derived.WalkKit
import Derived.ProofKit
import Derived.OpenShut
import Derived.ChangeOld
import Derived.ChangeSame
import Derived.ChangeVars
import Derived.JoinedOf
import Derived.RowKitTokens
import Derived.LaidLaws
import Derived.LaidHandle
import Derived.Stop.Joined
import Derived.Deep.Slices
import Derived.Below
/- ProofMay: the row: whatever two slices came in. -/
namespace Go.Proofs.YtphbnfjamclmjaaGreatDoor
open Go.ChangeShapes Go.WideShapes Go.RowKit Go.Deep Go.Proofs.YtphbnfjamclmjaaGreatDoorW.PrintWords Go.Proofs.YtphbnfjamclmjaaGreatDoor.PProofMay
set_option linter.unusedVariables false
set_option linter.unusedSimpArgs false

theorem Tryz.own : ownKnob Tryz.prog.godebug = none := by kernel_rfl
theorem laidOut : laidOutB Tryz.prog = true := by kernel_rfl
theorem c29 : Tryz.prog.cellsOf 29 = 1 := by kernel_rfl
theorem c2 : Tryz.prog.cellsOf 2 = 1 := by kernel_rfl
theorem c3 : Tryz.prog.cellsOf 3 = 1 := by kernel_rfl
theorem c34 : Tryz.prog.cellsOf 34 = 1 := by kernel_rfl
theorem c31 : Tryz.prog.cellsOf 31 = 2 := by kernel_rfl
theorem c33 : Tryz.prog.cellsOf 33 = 7 := by kernel_rfl
theorem c36 : Tryz.prog.cellsOf 36 = 6 := by kernel_rfl
theorem c38 : Tryz.prog.cellsOf 38 = 16 := by kernel_rfl
theorem list2 {α : Type} {l : List α} (h : l.length = 2) : ∃ v0 v1, l = [v0, v1] := by
  match l, h with
  | [v0, v1], _ => exact ⟨_, _, rfl⟩
theorem list6 {α : Type} {l : List α} (h : l.length = 6) : ∃ v0 v1 v2 v3 v4 v5, l = [v0, v1, v2, v3, v4, v5] := by
  match l, h with
  | [v0, v1, v2, v3, v4, v5], _ => exact ⟨_, _, _, _, _, _, rfl⟩
theorem list7 {α : Type} {l : List α} (h : l.length = 7) : ∃ v0 v1 v2 v3 v4 v5 v6, l = [v0, v1, v2, v3, v4, v5, v6] := by
  match l, h with
  | [v0, v1, v2, v3, v4, v5, v6], _ => exact ⟨_, _, _, _, _, _, _, rfl⟩
theorem list16 {α : Type} {l : List α} (h : l.length = 16) : ∃ v0 v1 v2 v3 v4 v5 v6 v7 v8 v9 v10 v11 v12 v13 v14 v15, l = [v0, v1, v2, v3, v4, v5, v6, v7, v8, v9, v10, v11, v12, v13, v14, v15] := by
  match l, h with
  | [v0, v1, v2, v3, v4, v5, v6, v7, v8, v9, v10, v11, v12, v13, v14, v15], _ => exact ⟨_, _, _, _, _, _, _, _, _, _, _, _, _, _, _, _, rfl⟩
section
variable {H : Type} {enc : TypeId × Value → H} {w : World} {base : Nat} {spare : Nat → Bool} {held : Bool}
theorem trod31 {n : Nat} {cs : List Value} {x : DataW H × List MemPlace} (h : DataW.trod enc Tryz.prog w base spare held n 31 cs = some x) : ∃ p : S31, cs = [.int .u64 p.f0, .int .u64 p.f1] := by
  obtain ⟨xs, m, rfl, _, hl, hxl, hf⟩ := DataW.trod_struct Tryz.underlying31 h
  have h0 : DataW.trod enc Tryz.prog w base spare held m 29 ((cs.drop 0).take (Tryz.prog.cellsOf 29)) = xs[0]? := hf 0 _ rfl
  have h1 : DataW.trod enc Tryz.prog w base spare held m 29 ((cs.drop 1).take (Tryz.prog.cellsOf 29)) = xs[1]? := hf 1 _ rfl
  rw [List.getElem?_eq_getElem (by rw [hxl]; decide), c29] at h0
  rw [List.getElem?_eq_getElem (by rw [hxl]; decide), c29] at h1
  obtain ⟨a0, e0, _⟩ := DataW.trod_int Tryz.underlying29 h0
  obtain ⟨a1, e1, _⟩ := DataW.trod_int Tryz.underlying29 h1
  rw [c31] at hl
  obtain ⟨v0, v1, rfl⟩ := list2 hl
  simp at e0 e1
  subst e0 e1
  exact ⟨⟨a0, a1⟩, rfl⟩
theorem trod33 {n : Nat} {cs : List Value} {x : DataW H × List MemPlace} (h : DataW.trod enc Tryz.prog w base spare held n 33 cs = some x) : ∃ p : S33, cs = [.int .i64 p.f0, .int .i64 p.f1, .int .i64 p.f2, .int .u64 p.f3.f0, .int .u64 p.f3.f1, .int .u64 p.f4, .int .i64 p.f5] := by
  obtain ⟨xs, m, rfl, _, hl, hxl, hf⟩ := DataW.trod_struct Tryz.underlying33 h
  have h0 : DataW.trod enc Tryz.prog w base spare held m 3 ((cs.drop 0).take (Tryz.prog.cellsOf 3)) = xs[0]? := hf 0 _ rfl
  have h1 : DataW.trod enc Tryz.prog w base spare held m 3 ((cs.drop 1).take (Tryz.prog.cellsOf 3)) = xs[1]? := hf 1 _ rfl
  have h2 : DataW.trod enc Tryz.prog w base spare held m 2 ((cs.drop 2).take (Tryz.prog.cellsOf 2)) = xs[2]? := hf 2 _ rfl
  have h3 : DataW.trod enc Tryz.prog w base spare held m 31 ((cs.drop 3).take (Tryz.prog.cellsOf 31)) = xs[3]? := hf 3 _ rfl
  have h4 : DataW.trod enc Tryz.prog w base spare held m 29 ((cs.drop 5).take (Tryz.prog.cellsOf 29)) = xs[4]? := hf 4 _ rfl
  have h5 : DataW.trod enc Tryz.prog w base spare held m 3 ((cs.drop 6).take (Tryz.prog.cellsOf 3)) = xs[5]? := hf 5 _ rfl
  rw [List.getElem?_eq_getElem (by rw [hxl]; decide)] at h0
  rw [List.getElem?_eq_getElem (by rw [hxl]; decide)] at h1
  rw [List.getElem?_eq_getElem (by rw [hxl]; decide)] at h2
  rw [List.getElem?_eq_getElem (by rw [hxl]; decide)] at h3
  rw [List.getElem?_eq_getElem (by rw [hxl]; decide)] at h4
  rw [List.getElem?_eq_getElem (by rw [hxl]; decide)] at h5
  simp only [c3, c2, c31, c29] at h0 h1 h2 h3 h4 h5
  obtain ⟨a0, e0, _⟩ := DataW.trod_int Tryz.underlying3 h0
  obtain ⟨a1, e1, _⟩ := DataW.trod_int Tryz.underlying3 h1
  obtain ⟨a2, e2, _⟩ := DataW.trod_int Tryz.underlying2 h2
  obtain ⟨a3, e3⟩ := trod31 h3
  obtain ⟨a4, e4, _⟩ := DataW.trod_int Tryz.underlying29 h4
  obtain ⟨a5, e5, _⟩ := DataW.trod_int Tryz.underlying3 h5
  rw [c33] at hl
  obtain ⟨v0, v1, v2, v3, v4, v5, v6, rfl⟩ := list7 hl
  simp at e0 e1 e2 e3 e4 e5
  obtain ⟨rfl, rfl⟩ := e3
  subst e0 e1 e2 e4 e5
  exact ⟨⟨a0, a1, a2, a3, a4, a5⟩, rfl⟩
theorem trod36 {n : Nat} {cs : List Value} {x : DataW H × List MemPlace} (h : DataW.trod enc Tryz.prog w base spare held n 36 cs = some x) : ∃ p : S36, cs = [.int .i64 p.f0, .int .u64 p.f1.f0, .int .u64 p.f1.f1, .int .u64 p.f2, .int .i64 p.f3, .int .i64 p.f4] := by
  obtain ⟨xs, m, rfl, _, hl, hxl, hf⟩ := DataW.trod_struct Tryz.underlying36 h
  have h0 : DataW.trod enc Tryz.prog w base spare held m 34 ((cs.drop 0).take (Tryz.prog.cellsOf 34)) = xs[0]? := hf 0 _ rfl
  have h1 : DataW.trod enc Tryz.prog w base spare held m 31 ((cs.drop 1).take (Tryz.prog.cellsOf 31)) = xs[1]? := hf 1 _ rfl
  have h2 : DataW.trod enc Tryz.prog w base spare held m 29 ((cs.drop 3).take (Tryz.prog.cellsOf 29)) = xs[2]? := hf 2 _ rfl
  have h3 : DataW.trod enc Tryz.prog w base spare held m 3 ((cs.drop 4).take (Tryz.prog.cellsOf 3)) = xs[3]? := hf 3 _ rfl
  have h4 : DataW.trod enc Tryz.prog w base spare held m 2 ((cs.drop 5).take (Tryz.prog.cellsOf 2)) = xs[4]? := hf 4 _ rfl
  rw [List.getElem?_eq_getElem (by rw [hxl]; decide)] at h0
  rw [List.getElem?_eq_getElem (by rw [hxl]; decide)] at h1
  rw [List.getElem?_eq_getElem (by rw [hxl]; decide)] at h2
  rw [List.getElem?_eq_getElem (by rw [hxl]; decide)] at h3
  rw [List.getElem?_eq_getElem (by rw [hxl]; decide)] at h4
  simp only [c34, c3, c2, c31, c29] at h0 h1 h2 h3 h4
  obtain ⟨a0, e0, _⟩ := DataW.trod_int Tryz.underlying34 h0
  obtain ⟨a1, e1⟩ := trod31 h1
  obtain ⟨a2, e2, _⟩ := DataW.trod_int Tryz.underlying29 h2
  obtain ⟨a3, e3, _⟩ := DataW.trod_int Tryz.underlying3 h3
  obtain ⟨a4, e4, _⟩ := DataW.trod_int Tryz.underlying2 h4
  rw [c36] at hl
  obtain ⟨v0, v1, v2, v3, v4, v5, rfl⟩ := list6 hl
  simp at e0 e1 e2 e3 e4
  obtain ⟨rfl, rfl⟩ := e1
  subst e0 e2 e3 e4
  exact ⟨⟨a0, a1, a2, a3, a4⟩, rfl⟩
theorem trod38 {n : Nat} {cs : List Value} {x : DataW H × List MemPlace} (h : DataW.trod enc Tryz.prog w base spare held n 38 cs = some x) : ∃ p : S38, cs = [.int .i64 p.f0, .int .i64 p.f1.f0, .int .i64 p.f1.f1, .int .i64 p.f1.f2, .int .u64 p.f1.f3.f0, .int .u64 p.f1.f3.f1, .int .u64 p.f1.f4, .int .i64 p.f1.f5, .int .i64 p.f2.f0, .int .u64 p.f2.f1.f0, .int .u64 p.f2.f1.f1, .int .u64 p.f2.f2, .int .i64 p.f2.f3, .int .i64 p.f2.f4, .int .i64 p.f3, .int .i64 p.f4] := by
  obtain ⟨xs, m, rfl, _, hl, hxl, hf⟩ := DataW.trod_struct Tryz.underlying38 h
  have h0 : DataW.trod enc Tryz.prog w base spare held m 3 ((cs.drop 0).take (Tryz.prog.cellsOf 3)) = xs[0]? := hf 0 _ rfl
  have h1 : DataW.trod enc Tryz.prog w base spare held m 33 ((cs.drop 1).take (Tryz.prog.cellsOf 33)) = xs[1]? := hf 1 _ rfl
  have h2 : DataW.trod enc Tryz.prog w base spare held m 36 ((cs.drop 8).take (Tryz.prog.cellsOf 36)) = xs[2]? := hf 2 _ rfl
  have h3 : DataW.trod enc Tryz.prog w base spare held m 3 ((cs.drop 14).take (Tryz.prog.cellsOf 3)) = xs[3]? := hf 3 _ rfl
  have h4 : DataW.trod enc Tryz.prog w base spare held m 3 ((cs.drop 15).take (Tryz.prog.cellsOf 3)) = xs[4]? := hf 4 _ rfl
  rw [List.getElem?_eq_getElem (by rw [hxl]; decide)] at h0
  rw [List.getElem?_eq_getElem (by rw [hxl]; decide)] at h1
  rw [List.getElem?_eq_getElem (by rw [hxl]; decide)] at h2
  rw [List.getElem?_eq_getElem (by rw [hxl]; decide)] at h3
  rw [List.getElem?_eq_getElem (by rw [hxl]; decide)] at h4
  simp only [c3, c33, c36] at h0 h1 h2 h3 h4
  obtain ⟨a0, e0, _⟩ := DataW.trod_int Tryz.underlying3 h0
  obtain ⟨a1, e1⟩ := trod33 h1
  obtain ⟨a2, e2⟩ := trod36 h2
  obtain ⟨a3, e3, _⟩ := DataW.trod_int Tryz.underlying3 h3
  obtain ⟨a4, e4, _⟩ := DataW.trod_int Tryz.underlying3 h4
  rw [c38] at hl
  obtain ⟨v0, v1, v2, v3, v4, v5, v6, v7, v8, v9, v10, v11, v12, v13, v14, v15, rfl⟩ := list16 hl
  simp at e0 e1 e2 e3 e4
  obtain ⟨rfl, rfl, rfl, rfl, rfl, rfl, rfl⟩ := e1
  obtain ⟨rfl, rfl, rfl, rfl, rfl, rfl⟩ := e2
  subst e0 e3 e4
  exact ⟨⟨a0, a1, a2, a3, a4⟩, rfl⟩
/-- A slice of opers that came in. -/
theorem open_opers {fuel : Nat} {a : Option Addr} {len cap : Nat} {x : DataW H × List MemPlace} (h : DataW.trod enc Tryz.prog w base spare held fuel 22 [.slice a len cap] = some x) :
    ∃ l : List S38, l.length = len ∧ len ≤ cap ∧ Kd.C k38 w a len l := by
  rcases open_slice Tryz.underlying22 h with ⟨hcs, _⟩ | ⟨ad, len', cap', m, n, D, Pl, hcs, _, hl, hm, hmm, _, hi⟩
  · simp only [List.cons.injEq, Value.slice.injEq, and_true] at hcs
    obtain ⟨rfl, rfl, rfl⟩ := hcs
    exact ⟨[], rfl, Nat.le_refl _, rfl, by decide, fun h0 => by omega⟩
  · simp only [List.cons.injEq, Value.slice.injEq, and_true] at hcs
    obtain ⟨rfl, rfl, rfl⟩ := hcs
    have hle : len ≤ m := by rw [hmm]; split <;> omega
    rw [c38] at hi
    haveI : Inhabited S38 := ⟨z38⟩
    obtain ⟨V, hV⟩ := choose_lt (α := S38) (n := m) (p := fun i v => ∀ j u, ([.int .i64 v.f0, .int .i64 v.f1.f0, .int .i64 v.f1.f1, .int .i64 v.f1.f2, .int .u64 v.f1.f3.f0, .int .u64 v.f1.f3.f1, .int .u64 v.f1.f4, .int .i64 v.f1.f5, .int .i64 v.f2.f0, .int .u64 v.f2.f1.f0, .int .u64 v.f2.f1.f1, .int .u64 v.f2.f2, .int .i64 v.f2.f3, .int .i64 v.f2.f4, .int .i64 v.f3, .int .i64 v.f4] : List Value)[j]? = some u → w.cell? (ad.add (i * 16 + j)) = some u) (fun i him => by
      obtain ⟨cs', hc, ht⟩ := hi i him
      obtain ⟨p, rfl⟩ := trod38 ht
      obtain ⟨_, hcl, hat⟩ := World.cells?_some hc
      refine ⟨p, fun j u hj => ?_⟩
      have hlt : j < 16 := by
        have := (List.getElem?_eq_some_iff.1 hj).1
        simpa using this
      have := hat j hlt
      rw [hj] at this
      rw [← Go.Deep.add_add]
      exact this)
    refine ⟨(List.range len).map V, by simp, hl, by simp, by unfold maxLen at hm; omega, fun _ => ⟨ad, rfl, fun j p hj => ?_⟩⟩
    rw [List.getElem?_map] at hj
    rcases Nat.lt_or_ge j len with hlt | hge
    · rw [List.getElem?_range hlt] at hj
      obtain rfl : V j = p := by simpa using hj
      exact ⟨_, rfl, k38_mk w (V j), fun i u hu => hV j (by omega) i u hu⟩
    · rw [List.getElem?_eq_none (by simpa using hge)] at hj
      cases hj
end
/-- A world that meets the condition on errors.errorType. -/
noncomputable def laidWorld (os : Os) : World :=
  let w0 := World.holding Tryz.prog os ⟨#[], #[], []⟩
  { w0 with heap := w0.heap.modify 0 fun
      | .cells _ t frozen => .cells #[.iface 252 (.agg #[.pointer (some ⟨4, 158, none⟩)])] t frozen
      | o => o }
theorem laidWorld_met (os : Os) (args : Array Value) : laidMetH Tryz.prog Rows.proofMayRow.laid ((laidWorld os).forCall (fun _ _ => 0) ⟨#[], args, []⟩).memory :=
  laidMetH_of_parts (laidMet_nil _ _) (by kernel_rfl)

end Go.Proofs.YtphbnfjamclmjaaGreatDoor
