/- FnExactIsValidBridge: the pure statement: the functions that the law computes answer true. Conditions: none. -/
import Derived.Test.YtkenlkkefmefoaaOFnExactIsValidBridge
import Derived.Test.YtkenlkkefmefoaaPL
namespace Go.Proofs.Ytkenlkkefmefoaa.Pure
open Go Go.RowKit Go.Proofs.Ytkenlkkefmefoaa.XFnExactIsValidBridge Go.Proofs.YtkenlkkefmefoaaW.PrintWords Go.Proofs.YtkenlkkefmefoaaW.PrintLast Go.Proofs.YtkenlkkefmefoaaW.PrintMore Go.Proofs.Ytkenlkkefmefoaa.Open Go.Proofs.Ytkenlkkefmefoaa.OFnExactIsValidBridge Go.Proofs.Ytkenlkkefmefoaa.PL
set_option linter.unusedVariables false
set_option linter.unusedSimpArgs false
theorem szBridgeEntry (xs : List S123) (a : Int) (ha : 0 ≤ a ∧ a ≤ 1048576) (hm : xs.length ≤ maxLen) : ∃ t, laws_szBridgeEntryS.f xs a = some t ∧ t ≤ 1048576 ∧ (0 ≤ t → (xs.length : Int) ≤ a) := by
  unfold maxLen at hm
  unfold laws_szBridgeEntryS.f
  rw [wrap_id (by omega) (by omega)]
  split
  · exact ⟨_, rfl, by omega, fun h => absurd h (by omega)⟩
  · exact ⟨_, rfl, by omega, fun h => by omega⟩
theorem rd123 {xs : List S123} {i : Nat} (h : i < xs.length) : rd_T123 xs (i : Int) = xs[i] := getD_nat h
theorem rdset123 {xs : List S123} {v : S123} {i : Nat} (h : i < xs.length) : rd_T123 (xs.set i v) (i : Int) = v := getD_set h
theorem rdrange123 {n : Nat} {g : Nat → S123} {i : Nat} (h : i < n) : rd_T123 ((List.range n).map g) (i : Int) = g i := getD_range h
theorem rd109 {xs : List S109} {i : Nat} (h : i < xs.length) : rd_T109 xs (i : Int) = xs[i] := getD_nat h
theorem rdset109 {xs : List S109} {v : S109} {i : Nat} (h : i < xs.length) : rd_T109 (xs.set i v) (i : Int) = v := getD_set h
theorem rdrange109 {n : Nat} {g : Nat → S109} {i : Nat} (h : i < n) : rd_T109 ((List.range n).map g) (i : Int) = g i := getD_range h
def cvBridgeEntry (x : S123) : S109 := ⟨x.f0, x.f1, x.f2⟩
theorem toBridgeEntryS (xs : List S123) (hl : xs.length ≤ 1048576) : Ev (fun k => laws_toBridgeEntryS.f k xs) (xs.map cvBridgeEntry) := by
  refine ev_congr (g' := fun k => laws_toBridgeEntryS.l0 k xs (List.replicate xs.length z109) 0) (fun k => ?_) ?_
  · unfold laws_toBridgeEntryS.f
    rw [if_pos (by omega), if_pos (by omega), Int.toNat_natCast]
  · refine loopMap xs cvBridgeEntry z109 (fun k ys i => laws_toBridgeEntryS.l0 k xs ys i) 0 ?_ ?_
    · intro i h ys k _ hy
      simp only [laws_toBridgeEntryS.l0, laws_toBridgeEntry.f, Option.bind_some]
      rw [if_pos (by omega), if_pos (by omega), if_pos (by omega), rd123 h, wrap_succ (by omega), Int.toNat_natCast]
      rfl
    · intro ys k _
      simp only [laws_toBridgeEntryS.l0]
      rw [if_neg (by omega)]
theorem eqBridgeEntryS (xs : List S109) (hl : xs.length ≤ 4194304) : Ev (fun k => laws_eqBridgeEntryS.f k xs xs) true := by
  refine ev_congr (g' := fun k => laws_eqBridgeEntryS.l0 k xs xs 0) (fun k => ?_) ?_
  · unfold laws_eqBridgeEntryS.f
    rw [if_pos rfl]
  · refine run_loop 1 (fun k i => laws_eqBridgeEntryS.l0 k xs xs (i : Int)) xs.length true 0 ?_ ?_
    · intro i h k _
      simp only [laws_eqBridgeEntryS.l0, laws_eqBridgeEntry.f, if_true, Option.bind_some]
      rw [if_pos (by omega), if_pos (by omega), if_pos (by omega), wrap_succ (by omega)]
    · intro k _
      simp only [laws_eqBridgeEntryS.l0]
      rw [if_neg (by omega)]
theorem implIn (a b c : Int) : impl_InRange.f a b c = some (decide (b ≤ a ∧ a ≤ c)) := by
  unfold impl_InRange.f
  by_cases h : b ≤ a <;> simp [h]
/-- A bridge's entries, well formed and in order. -/
def brOk (ports : Int) (xs : List S109) (i : Nat) : Bool := decide (0 ≤ (rd_T109 xs i).f0 ∧ (rd_T109 xs i).f0 ≤ 15) && decide (0 ≤ (rd_T109 xs i).f1 ∧ (rd_T109 xs i).f1 ≤ wrap64 (ports - 1)) && decide (0 ≤ (rd_T109 xs i).f2 ∧ (rd_T109 xs i).f2 ≤ 1000000000000) && (decide (i = 0) || decide ((rd_T109 xs ((i : Int) - 1)).f0 < (rd_T109 xs i).f0))
def vbr (ports : Int) (xs : List S109) : Bool := if (List.range xs.length).all (brOk ports xs) then decide (1 ≤ ports ∧ ports ≤ 6) && decide ((xs.length : Int) ≤ 12) else false
theorem implVB (ports : Int) (xs : List S109) (hl : xs.length ≤ 4194304) : Ev (fun k => impl_IsValidBridge.f k ports xs) (vbr ports xs) := by
  have main : Ev (fun k => impl_IsValidBridge.l0 k xs (xs.length : Int) 0 ports xs) (if (List.range xs.length).all (brOk ports xs) then true else false) := by
    refine loopAll' 2 xs.length (fun k i => impl_IsValidBridge.l0 k xs (xs.length : Int) i ports xs) 0 (brOk ports xs) true false ?_ ?_
    · intro i hi k _
      simp only [impl_IsValidBridge.l0, impl_IsValidBridge.j2, impl_isStation.f, implIn, Option.bind_some, brOk]
      rw [if_pos (by omega), if_pos (by omega), if_pos (by omega), wrap_succ (by omega)]
      by_cases p0 : 0 ≤ (rd_T109 xs i).f0 ∧ (rd_T109 xs i).f0 ≤ 15
      · by_cases h0 : i = 0
        · have q0 : ¬ ((i : Int) > 0) := by omega
          have q9 : decide (i = 0) = true := decide_eq_true h0
          by_cases p1 : 0 ≤ (rd_T109 xs i).f1 ∧ (rd_T109 xs i).f1 ≤ wrap64 (ports - 1) <;> by_cases p2 : 0 ≤ (rd_T109 xs i).f2 ∧ (rd_T109 xs i).f2 ≤ 1000000000000 <;> simp only [p0, p1, p2, q0, q9, and_self, decide_true, decide_false, if_true, if_false, Bool.and_true, Bool.and_false, Bool.true_and, Bool.false_and, Bool.or_true, Bool.true_or, Bool.or_false, Bool.false_or, Bool.not_true, Bool.not_false, Bool.false_eq_true]
        · rw [wrap_id (n := (i : Int) - 1) (by omega) (by omega)]
          have q1 : (i : Int) > 0 := by omega
          have q2 : 0 ≤ (i : Int) - 1 := by omega
          have q3 : (i : Int) - 1 < (xs.length : Int) := by omega
          by_cases p5 : (rd_T109 xs ((i : Int) - 1)).f0 < (rd_T109 xs i).f0
          · have p6 : ¬ (rd_T109 xs i).f0 ≤ (rd_T109 xs ((i : Int) - 1)).f0 := by omega
            by_cases p1 : 0 ≤ (rd_T109 xs i).f1 ∧ (rd_T109 xs i).f1 ≤ wrap64 (ports - 1) <;> by_cases p2 : 0 ≤ (rd_T109 xs i).f2 ∧ (rd_T109 xs i).f2 ≤ 1000000000000 <;> simp only [p0, p1, p2, p5, p6, q1, q2, q3, h0, and_self, decide_true, decide_false, if_true, if_false, Bool.and_true, Bool.and_false, Bool.true_and, Bool.false_and, Bool.or_true, Bool.true_or, Bool.or_false, Bool.false_or, Bool.not_true, Bool.not_false, Bool.false_eq_true]
          · have p6 : (rd_T109 xs i).f0 ≤ (rd_T109 xs ((i : Int) - 1)).f0 := by omega
            by_cases p1 : 0 ≤ (rd_T109 xs i).f1 ∧ (rd_T109 xs i).f1 ≤ wrap64 (ports - 1) <;> by_cases p2 : 0 ≤ (rd_T109 xs i).f2 ∧ (rd_T109 xs i).f2 ≤ 1000000000000 <;> simp only [p0, p1, p2, p5, p6, q1, q2, q3, h0, and_self, decide_true, decide_false, if_true, if_false, Bool.and_true, Bool.and_false, Bool.true_and, Bool.false_and, Bool.or_true, Bool.true_or, Bool.or_false, Bool.false_or, Bool.not_true, Bool.not_false, Bool.false_eq_true]
      · simp only [p0, and_self, decide_true, decide_false, if_true, if_false, Bool.and_true, Bool.and_false, Bool.true_and, Bool.false_and, Bool.or_true, Bool.true_or, Bool.or_false, Bool.false_or, Bool.not_true, Bool.not_false, Bool.false_eq_true]
    · intro k _
      simp only [impl_IsValidBridge.l0]
      rw [if_neg (by omega)]
  obtain ⟨K, hK⟩ := main
  dsimp only at hK
  refine ⟨K + 1, fun k hk => ?_⟩
  obtain ⟨k, rfl⟩ : ∃ q, k = q + 1 := ⟨k - 1, by omega⟩
  have h := hK k (by omega)
  show impl_IsValidBridge.f (k + 1) ports xs = _
  simp only [impl_IsValidBridge.f, impl_IsValidBridge.j0, implIn, Option.bind_some, vbr]
  by_cases h1 : 1 ≤ ports ∧ ports ≤ 6
  · by_cases h2 : (xs.length : Int) ≤ 12
    · have h3 : ¬ (xs.length : Int) > 12 := by omega
      simp only [h1, h2, h3, h, and_self, decide_true, decide_false, if_true, if_false, Bool.and_true, Bool.and_false, Bool.true_and, Bool.false_and, Bool.or_true, Bool.true_or, Bool.or_false, Bool.false_or, Bool.not_true, Bool.not_false, Bool.false_eq_true]
    · have h3 : (xs.length : Int) > 12 := by omega
      simp only [h1, h2, h3, and_self, decide_true, decide_false, if_true, if_false, Bool.and_true, Bool.and_false, Bool.true_and, Bool.false_and, Bool.or_true, Bool.true_or, Bool.or_false, Bool.false_or, Bool.not_true, Bool.not_false, Bool.false_eq_true, ite_self]
  · simp only [h1, and_self, decide_true, decide_false, if_true, if_false, Bool.and_true, Bool.and_false, Bool.true_and, Bool.false_and, Bool.or_true, Bool.true_or, Bool.or_false, Bool.false_or, Bool.not_true, Bool.not_false, Bool.false_eq_true, ite_self]
theorem specIn (a b c : Int) : spec_l1In.f a b c = some (decide (b ≤ a ∧ a ≤ c)) := by
  unfold spec_l1In.f
  by_cases h : b ≤ a <;> simp [h]
theorem specVB (ports : Int) (xs : List S109) (hl : xs.length ≤ 4194304) : Ev (fun k => spec_IsValidBridge.f k ports xs) (vbr ports xs) := by
  refine loopAll' 1 xs.length (fun k i => spec_IsValidBridge.l0 k i ports xs) 0 (brOk ports xs) (decide (1 ≤ ports ∧ ports ≤ 6) && decide ((xs.length : Int) ≤ 12)) false ?_ ?_
  · intro i hi k _
    simp only [spec_IsValidBridge.l0, specIn, Option.bind_some, brOk]
    rw [if_pos (by omega), if_pos (by omega), wrap_succ (by omega)]
    by_cases p0 : 0 ≤ (rd_T109 xs i).f0 ∧ (rd_T109 xs i).f0 ≤ 15
    · by_cases h0 : i = 0
      · have q0 : ¬ ((i : Int) > 0) := by omega
        have q9 : decide (i = 0) = true := decide_eq_true h0
        by_cases p1 : 0 ≤ (rd_T109 xs i).f1 ∧ (rd_T109 xs i).f1 ≤ wrap64 (ports - 1) <;> by_cases p2 : 0 ≤ (rd_T109 xs i).f2 ∧ (rd_T109 xs i).f2 ≤ 1000000000000 <;> simp only [p0, p1, p2, q0, q9, and_self, decide_true, decide_false, if_true, if_false, Bool.and_true, Bool.and_false, Bool.true_and, Bool.false_and, Bool.or_true, Bool.true_or, Bool.or_false, Bool.false_or, Bool.not_true, Bool.not_false, Bool.false_eq_true]
      · rw [wrap_id (n := (i : Int) - 1) (by omega) (by omega)]
        have q1 : (i : Int) > 0 := by omega
        have q2 : 0 ≤ (i : Int) - 1 := by omega
        have q3 : (i : Int) - 1 < (xs.length : Int) := by omega
        by_cases p5 : (rd_T109 xs ((i : Int) - 1)).f0 < (rd_T109 xs i).f0
        · have p6 : ¬ (rd_T109 xs ((i : Int) - 1)).f0 ≥ (rd_T109 xs i).f0 := by omega
          by_cases p1 : 0 ≤ (rd_T109 xs i).f1 ∧ (rd_T109 xs i).f1 ≤ wrap64 (ports - 1) <;> by_cases p2 : 0 ≤ (rd_T109 xs i).f2 ∧ (rd_T109 xs i).f2 ≤ 1000000000000 <;> simp only [p0, p1, p2, p5, p6, q1, q2, q3, h0, and_self, decide_true, decide_false, if_true, if_false, Bool.and_true, Bool.and_false, Bool.true_and, Bool.false_and, Bool.or_true, Bool.true_or, Bool.or_false, Bool.false_or, Bool.not_true, Bool.not_false, Bool.false_eq_true]
        · have p6 : (rd_T109 xs ((i : Int) - 1)).f0 ≥ (rd_T109 xs i).f0 := by omega
          by_cases p1 : 0 ≤ (rd_T109 xs i).f1 ∧ (rd_T109 xs i).f1 ≤ wrap64 (ports - 1) <;> by_cases p2 : 0 ≤ (rd_T109 xs i).f2 ∧ (rd_T109 xs i).f2 ≤ 1000000000000 <;> simp only [p0, p1, p2, p5, p6, q1, q2, q3, h0, and_self, decide_true, decide_false, if_true, if_false, Bool.and_true, Bool.and_false, Bool.true_and, Bool.false_and, Bool.or_true, Bool.true_or, Bool.or_false, Bool.false_or, Bool.not_true, Bool.not_false, Bool.false_eq_true]
    · simp only [p0, and_self, decide_true, decide_false, if_true, if_false, Bool.and_true, Bool.and_false, Bool.true_and, Bool.false_and, Bool.or_true, Bool.true_or, Bool.or_false, Bool.false_or, Bool.not_true, Bool.not_false, Bool.false_eq_true]
  · intro k _
    simp only [spec_IsValidBridge.l0, specIn, Option.bind_some]
    rw [if_neg (by omega)]
    by_cases h1 : 1 ≤ ports ∧ ports ≤ 6 <;> simp only [h1, and_self, decide_true, decide_false, if_true, if_false, Bool.and_true, Bool.and_false, Bool.true_and, Bool.false_and, Bool.or_true, Bool.true_or, Bool.or_false, Bool.false_or, Bool.not_true, Bool.not_false, Bool.false_eq_true]

theorem FnExactIsValidBridge : OFnExactIsValidBridge.Pure := by
  intro ports l _ ⟨hm, _⟩
  obtain ⟨t, ht, _, hl⟩ := szBridgeEntry l 1048576 (by omega) hm
  have hz : laws_szBridge.f ports l 1048576 = some (if t < 0 then -1 else t) := by
    unfold laws_szBridge.f; rw [ht, Option.bind_some]; split <;> rfl
  by_cases hneg : t < 0
  · exact ⟨0, by unfold laws_FnExactIsValidBridge.f; rw [hz, if_pos hneg, Option.bind_some, if_pos (by decide)]⟩
  rw [if_neg hneg] at hz
  have hl : l.length ≤ 1048576 := by have := hl (by omega); omega
  obtain ⟨X, hX⟩ : ∃ X, X = l.map cvBridgeEntry := ⟨_, rfl⟩
  have hXl : X.length ≤ 1048576 := by rw [hX]; simpa using hl
  obtain ⟨K1, e1⟩ := toBridgeEntryS l hl
  rw [← hX] at e1
  obtain ⟨K2, e2⟩ := implVB ports X (by omega)
  obtain ⟨K3, e3⟩ := specVB ports X (by omega)
  obtain ⟨K4, e4⟩ := eqBridgeEntryS X (by omega)
  refine ⟨K1 + K2 + K3 + K4 + 0, ?_⟩
  generalize hk : K1 + K2 + K3 + K4 = k
  have a1_0 := e1 (k) (by omega)
  have a2_0 := e2 (k) (by omega)
  have a3_0 := e3 (k) (by omega)
  have a4_0 := e4 (k) (by omega)
  simp only [laws_FnExactIsValidBridge.f, laws_toBridge.f, laws_eqBridge.f, a1_0, a2_0, a3_0, a4_0, hz, hneg, Option.bind_some, if_true, if_false, Bool.not_true, Bool.not_false, Bool.false_eq_true, reduceCtorEq, bne_self_eq_false]

end Go.Proofs.Ytkenlkkefmefoaa.Pure
