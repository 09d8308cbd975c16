/- FnExactIsValidTable: the pure statement: the functions that the law computes answer true. Conditions: none. -/
import Derived.Test.YtkenlkkefmefoaaOFnExactIsValidTable
import Derived.Test.YtkenlkkefmefoaaPL
namespace Go.Proofs.Ytkenlkkefmefoaa.Pure
open Go Go.RowKit Go.Proofs.Ytkenlkkefmefoaa.PFnExactIsValidTable Go.Proofs.YtkenlkkefmefoaaW.PrintWords Go.Proofs.YtkenlkkefmefoaaW.PrintLast Go.Proofs.YtkenlkkefmefoaaW.PrintMore Go.Proofs.Ytkenlkkefmefoaa.Open Go.Proofs.Ytkenlkkefmefoaa.OFnExactIsValidTable Go.Proofs.Ytkenlkkefmefoaa.PL
set_option linter.unusedVariables false
set_option linter.unusedSimpArgs false
theorem szPathEntry (xs : List S126) (a : Int) (ha : 0 ≤ a ∧ a ≤ 1048576) (hm : xs.length ≤ maxLen) : ∃ t, laws_szPathEntryS.f xs a = some t ∧ t ≤ 1048576 ∧ (0 ≤ t → (xs.length : Int) ≤ a) := by
  unfold maxLen at hm
  unfold laws_szPathEntryS.f
  rw [wrap_id (by omega) (by omega)]
  split
  · exact ⟨_, rfl, by omega, fun h => absurd h (by omega)⟩
  · exact ⟨_, rfl, by omega, fun h => by omega⟩
theorem rd126 {xs : List S126} {i : Nat} (h : i < xs.length) : rd_T126 xs (i : Int) = xs[i] := getD_nat h
theorem rdset126 {xs : List S126} {v : S126} {i : Nat} (h : i < xs.length) : rd_T126 (xs.set i v) (i : Int) = v := getD_set h
theorem rdrange126 {n : Nat} {g : Nat → S126} {i : Nat} (h : i < n) : rd_T126 ((List.range n).map g) (i : Int) = g i := getD_range h
theorem rd114 {xs : List S114} {i : Nat} (h : i < xs.length) : rd_T114 xs (i : Int) = xs[i] := getD_nat h
theorem rdset114 {xs : List S114} {v : S114} {i : Nat} (h : i < xs.length) : rd_T114 (xs.set i v) (i : Int) = v := getD_set h
theorem rdrange114 {n : Nat} {g : Nat → S114} {i : Nat} (h : i < n) : rd_T114 ((List.range n).map g) (i : Int) = g i := getD_range h
def cvPathEntry (x : S126) : S114 := ⟨x.f0, x.f1, x.f2, x.f3, x.f4⟩
theorem toPathEntryS (xs : List S126) (hl : xs.length ≤ 1048576) : Ev (fun k => laws_toPathEntryS.f k xs) (xs.map cvPathEntry) := by
  refine ev_congr (g' := fun k => laws_toPathEntryS.l0 k xs (List.replicate xs.length z114) 0) (fun k => ?_) ?_
  · unfold laws_toPathEntryS.f
    rw [if_pos (by omega), if_pos (by omega), Int.toNat_natCast]
  · refine loopMap xs cvPathEntry z114 (fun k ys i => laws_toPathEntryS.l0 k xs ys i) 0 ?_ ?_
    · intro i h ys k _ hy
      simp only [laws_toPathEntryS.l0, laws_toPathEntry.f, Option.bind_some]
      rw [if_pos (by omega), if_pos (by omega), if_pos (by omega), rd126 h, wrap_succ (by omega), Int.toNat_natCast]
      rfl
    · intro ys k _
      simp only [laws_toPathEntryS.l0]
      rw [if_neg (by omega)]
theorem eqPathEntryS (xs : List S114) (hl : xs.length ≤ 4194304) : Ev (fun k => laws_eqPathEntryS.f k xs xs) true := by
  refine ev_congr (g' := fun k => laws_eqPathEntryS.l0 k xs xs 0) (fun k => ?_) ?_
  · unfold laws_eqPathEntryS.f
    rw [if_pos rfl]
  · refine run_loop 1 (fun k i => laws_eqPathEntryS.l0 k xs xs (i : Int)) xs.length true 0 ?_ ?_
    · intro i h k _
      simp only [laws_eqPathEntryS.l0, laws_eqPathEntry.f, if_true, Option.bind_some]
      rw [if_pos (by omega), if_pos (by omega), if_pos (by omega), wrap_succ (by omega)]
    · intro k _
      simp only [laws_eqPathEntryS.l0]
      rw [if_neg (by omega)]
theorem implIn (a b c : Int) : impl_InRange.f a b c = some (decide (b ≤ a ∧ a ≤ c)) := by
  unfold impl_InRange.f
  by_cases h : b ≤ a <;> simp [h]
/-- An entry that is well formed, and a table's order. -/
def peOk (a b c d e : Int) : Bool := decide (0 ≤ a ∧ a ≤ 7) && decide (0 ≤ b ∧ b ≤ 7) && decide (0 ≤ c ∧ c ≤ 1000000000000) && decide (1 ≤ d ∧ d ≤ 8) && decide (0 ≤ e ∧ e ≤ 100000)
def tbOk (xs : List S114) (i : Nat) : Bool := peOk (rd_T114 xs i).f0 (rd_T114 xs i).f1 (rd_T114 xs i).f2 (rd_T114 xs i).f3 (rd_T114 xs i).f4 && (decide (i = 0) || decide ((rd_T114 xs ((i : Int) - 1)).f0 < (rd_T114 xs i).f0))
def vtab (xs : List S114) : Bool := if (List.range xs.length).all (tbOk xs) then true else false
theorem implVT (xs : List S114) (hl : xs.length ≤ 4194304) : Ev (fun k => impl_IsValidTable.f k xs) (vtab xs) := by
  refine loopAll' 3 xs.length (fun k i => impl_IsValidTable.l0 k xs (xs.length : Int) i xs) 0 (tbOk xs) true false ?_ ?_
  · intro i hi k _
    simp only [impl_IsValidTable.l0, impl_IsValidTable.j1, impl_IsValidTable.j2, implIn, Option.bind_some, tbOk, peOk]
    rw [if_pos (by omega), if_pos (by omega), if_pos (by omega), wrap_succ (by omega)]
    by_cases p0 : 0 ≤ (rd_T114 xs i).f0 ∧ (rd_T114 xs i).f0 ≤ 7
    · by_cases p1 : 0 ≤ (rd_T114 xs i).f1 ∧ (rd_T114 xs i).f1 ≤ 7
      · by_cases h0 : i = 0
        · have q0 : ¬ ((i : Int) > 0) := by omega
          have q9 : decide (i = 0) = true := decide_eq_true h0
          by_cases p2 : 0 ≤ (rd_T114 xs i).f2 ∧ (rd_T114 xs i).f2 ≤ 1000000000000 <;> by_cases p3 : 1 ≤ (rd_T114 xs i).f3 ∧ (rd_T114 xs i).f3 ≤ 8 <;> by_cases p4 : 0 ≤ (rd_T114 xs i).f4 ∧ (rd_T114 xs i).f4 ≤ 100000 <;> simp only [p0, p1, p2, p3, p4, q0, q9, and_self, decide_true, decide_false, if_true, if_false, Bool.and_true, Bool.and_false, Bool.true_and, Bool.false_and, Bool.or_true, Bool.true_or, Bool.or_false, Bool.false_or, Bool.not_true, Bool.not_false, Bool.false_eq_true]
        · rw [wrap_id (n := (i : Int) - 1) (by omega) (by omega)]
          have q1 : (i : Int) > 0 := by omega
          have q2 : 0 ≤ (i : Int) - 1 := by omega
          have q3 : (i : Int) - 1 < (xs.length : Int) := by omega
          by_cases p5 : (rd_T114 xs ((i : Int) - 1)).f0 < (rd_T114 xs i).f0
          · have p6 : ¬ (rd_T114 xs i).f0 ≤ (rd_T114 xs ((i : Int) - 1)).f0 := by omega
            by_cases p2 : 0 ≤ (rd_T114 xs i).f2 ∧ (rd_T114 xs i).f2 ≤ 1000000000000 <;> by_cases p3 : 1 ≤ (rd_T114 xs i).f3 ∧ (rd_T114 xs i).f3 ≤ 8 <;> by_cases p4 : 0 ≤ (rd_T114 xs i).f4 ∧ (rd_T114 xs i).f4 ≤ 100000 <;> simp only [p0, p1, p2, p3, p4, p5, p6, q1, q2, q3, h0, and_self, decide_true, decide_false, if_true, if_false, Bool.and_true, Bool.and_false, Bool.true_and, Bool.false_and, Bool.or_true, Bool.true_or, Bool.or_false, Bool.false_or, Bool.not_true, Bool.not_false, Bool.false_eq_true]
          · have p6 : (rd_T114 xs i).f0 ≤ (rd_T114 xs ((i : Int) - 1)).f0 := by omega
            simp only [p0, p1, p5, p6, q1, q2, q3, h0, and_self, decide_true, decide_false, if_true, if_false, Bool.and_true, Bool.and_false, Bool.true_and, Bool.false_and, Bool.or_true, Bool.true_or, Bool.or_false, Bool.false_or, Bool.not_true, Bool.not_false, Bool.false_eq_true]
      · simp only [p0, p1, and_self, decide_true, decide_false, if_true, if_false, Bool.and_true, Bool.and_false, Bool.true_and, Bool.false_and, Bool.not_true, Bool.not_false, Bool.false_eq_true]
    · simp only [p0, decide_true, decide_false, if_true, if_false, Bool.and_true, Bool.and_false, Bool.true_and, Bool.false_and, Bool.not_true, Bool.not_false, Bool.false_eq_true]
  · intro k _
    simp only [impl_IsValidTable.l0]
    rw [if_neg (by omega)]
theorem specIn (a b c : Int) : spec_l1In.f a b c = some (decide (b ≤ a ∧ a ≤ c)) := by
  unfold spec_l1In.f
  by_cases h : b ≤ a <;> simp [h]
theorem specVT (xs : List S114) (hl : xs.length ≤ 4194304) : Ev (fun k => spec_IsValidTable.f k xs) (vtab xs) := by
  refine loopAll' 2 xs.length (fun k i => spec_IsValidTable.l0 k i xs) 0 (tbOk xs) true false ?_ ?_
  · intro i hi k _
    simp only [spec_IsValidTable.l0, spec_IsValidTable.j1, specIn, Option.bind_some, tbOk, peOk]
    rw [if_pos (by omega), if_pos (by omega), wrap_succ (by omega)]
    by_cases p0 : 0 ≤ (rd_T114 xs i).f0 ∧ (rd_T114 xs i).f0 ≤ 7
    · by_cases p1 : 0 ≤ (rd_T114 xs i).f1 ∧ (rd_T114 xs i).f1 ≤ 7
      · by_cases h0 : i = 0
        · have q0 : ¬ ((i : Int) > 0) := by omega
          have q9 : decide (i = 0) = true := decide_eq_true h0
          by_cases p2 : 0 ≤ (rd_T114 xs i).f2 ∧ (rd_T114 xs i).f2 ≤ 1000000000000 <;> by_cases p3 : 1 ≤ (rd_T114 xs i).f3 ∧ (rd_T114 xs i).f3 ≤ 8 <;> by_cases p4 : 0 ≤ (rd_T114 xs i).f4 ∧ (rd_T114 xs i).f4 ≤ 100000 <;> simp only [p0, p1, p2, p3, p4, q0, q9, and_self, decide_true, decide_false, if_true, if_false, Bool.and_true, Bool.and_false, Bool.true_and, Bool.false_and, Bool.or_true, Bool.true_or, Bool.or_false, Bool.false_or, Bool.not_true, Bool.not_false, Bool.false_eq_true]
        · rw [wrap_id (n := (i : Int) - 1) (by omega) (by omega)]
          have q1 : (i : Int) > 0 := by omega
          have q2 : 0 ≤ (i : Int) - 1 := by omega
          have q3 : (i : Int) - 1 < (xs.length : Int) := by omega
          by_cases p5 : (rd_T114 xs ((i : Int) - 1)).f0 < (rd_T114 xs i).f0
          · have p6 : ¬ (rd_T114 xs ((i : Int) - 1)).f0 ≥ (rd_T114 xs i).f0 := by omega
            by_cases p2 : 0 ≤ (rd_T114 xs i).f2 ∧ (rd_T114 xs i).f2 ≤ 1000000000000 <;> by_cases p3 : 1 ≤ (rd_T114 xs i).f3 ∧ (rd_T114 xs i).f3 ≤ 8 <;> by_cases p4 : 0 ≤ (rd_T114 xs i).f4 ∧ (rd_T114 xs i).f4 ≤ 100000 <;> simp only [p0, p1, p2, p3, p4, p5, p6, q1, q2, q3, h0, and_self, decide_true, decide_false, if_true, if_false, Bool.and_true, Bool.and_false, Bool.true_and, Bool.false_and, Bool.or_true, Bool.true_or, Bool.or_false, Bool.false_or, Bool.not_true, Bool.not_false, Bool.false_eq_true]
          · have p6 : (rd_T114 xs ((i : Int) - 1)).f0 ≥ (rd_T114 xs i).f0 := by omega
            simp only [p0, p1, p5, p6, q1, q2, q3, h0, and_self, decide_true, decide_false, if_true, if_false, Bool.and_true, Bool.and_false, Bool.true_and, Bool.false_and, Bool.or_true, Bool.true_or, Bool.or_false, Bool.false_or, Bool.not_true, Bool.not_false, Bool.false_eq_true]
      · simp only [p0, p1, and_self, decide_true, decide_false, if_true, if_false, Bool.and_true, Bool.and_false, Bool.true_and, Bool.false_and, Bool.not_true, Bool.not_false, Bool.false_eq_true]
    · simp only [p0, decide_true, decide_false, if_true, if_false, Bool.and_true, Bool.and_false, Bool.true_and, Bool.false_and, Bool.not_true, Bool.not_false, Bool.false_eq_true]
  · intro k _
    simp only [spec_IsValidTable.l0]
    rw [if_neg (by omega)]

theorem FnExactIsValidTable : OFnExactIsValidTable.Pure := by
  intro l ⟨hm, _⟩
  obtain ⟨t, ht, _, hl⟩ := szPathEntry l 1048576 (by omega) hm
  have hz : laws_szPathTable.f l 1048576 = some (if t < 0 then -1 else t) := by
    unfold laws_szPathTable.f; rw [ht, Option.bind_some]; split <;> rfl
  by_cases hneg : t < 0
  · exact ⟨0, by unfold laws_FnExactIsValidTable.f; rw [hz, if_pos hneg, Option.bind_some, if_pos (by decide)]⟩
  rw [if_neg hneg] at hz
  have hl : l.length ≤ 1048576 := by have := hl (by omega); omega
  obtain ⟨X, hX⟩ : ∃ X, X = l.map cvPathEntry := ⟨_, rfl⟩
  have hXl : X.length ≤ 1048576 := by rw [hX]; simpa using hl
  obtain ⟨K1, e1⟩ := toPathEntryS l hl
  rw [← hX] at e1
  obtain ⟨K2, e2⟩ := implVT X (by omega)
  obtain ⟨K3, e3⟩ := specVT X (by omega)
  obtain ⟨K4, e4⟩ := eqPathEntryS X (by omega)
  refine ⟨K1 + K2 + K3 + K4 + 0, ?_⟩
  generalize hk : K1 + K2 + K3 + K4 = k
  have a1_0 := e1 (k) (by omega)
  have a2_0 := e2 (k) (by omega)
  have a3_0 := e3 (k) (by omega)
  have a4_0 := e4 (k) (by omega)
  simp only [laws_FnExactIsValidTable.f, laws_toPathTable.f, laws_eqPathTable.f, a1_0, a2_0, a3_0, a4_0, hz, hneg, Option.bind_some, if_true, if_false, Bool.not_true, Bool.not_false, Bool.false_eq_true, reduceCtorEq, bne_self_eq_false]

end Go.Proofs.Ytkenlkkefmefoaa.Pure
