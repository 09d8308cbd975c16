/- FnExactPathEntryFor: the pure statement: the functions that the law computes answer true. Conditions: none. -/
import Derived.Test.YtohniomkenkdmaaOFnExactPathEntryFor
import Derived.Test.YtohniomkenkdmaaPL
namespace Go.Proofs.Ytohniomkenkdmaa.Pure
open Go Go.RowKit Go.Proofs.Ytohniomkenkdmaa.XFnExactPathEntryFor Go.Proofs.YtohniomkenkdmaaW.PrintWords Go.Proofs.YtohniomkenkdmaaW.PrintLast Go.Proofs.YtohniomkenkdmaaW.PrintMore Go.Proofs.Ytohniomkenkdmaa.Open Go.Proofs.Ytohniomkenkdmaa.OFnExactPathEntryFor Go.Proofs.Ytohniomkenkdmaa.PL
set_option linter.unusedVariables false
set_option linter.unusedSimpArgs false
theorem szPathEntry (xs : List S158) (a : Int) (ha : 0 ≤ a ∧ a ≤ 1048576) (hm : xs.length ≤ maxLen) : ∃ t, laws_szPathEntryS.f xs a = some t ∧ t ≤ 1048576 ∧ (0 ≤ t → (xs.length : Int) ≤ a) := by
  unfold maxLen at hm
  unfold laws_szPathEntryS.f
  rw [wrap_id (by omega) (by omega)]
  split
  · exact ⟨_, rfl, by omega, fun h => absurd h (by omega)⟩
  · exact ⟨_, rfl, by omega, fun h => by omega⟩
theorem rd158 {xs : List S158} {i : Nat} (h : i < xs.length) : rd_T158 xs (i : Int) = xs[i] := getD_nat h
theorem rdset158 {xs : List S158} {v : S158} {i : Nat} (h : i < xs.length) : rd_T158 (xs.set i v) (i : Int) = v := getD_set h
theorem rdrange158 {n : Nat} {g : Nat → S158} {i : Nat} (h : i < n) : rd_T158 ((List.range n).map g) (i : Int) = g i := getD_range h
theorem rd27 {xs : List S27} {i : Nat} (h : i < xs.length) : rd_T27 xs (i : Int) = xs[i] := getD_nat h
theorem rdset27 {xs : List S27} {v : S27} {i : Nat} (h : i < xs.length) : rd_T27 (xs.set i v) (i : Int) = v := getD_set h
theorem rdrange27 {n : Nat} {g : Nat → S27} {i : Nat} (h : i < n) : rd_T27 ((List.range n).map g) (i : Int) = g i := getD_range h
def cvPathEntry (x : S158) : S27 := ⟨x.f0, x.f1, x.f2, x.f3, x.f4⟩
theorem toPathEntryS (xs : List S158) (hl : xs.length ≤ 1048576) : Ev (fun k => laws_toPathEntryS.f k xs) (xs.map cvPathEntry) := by
  refine ev_congr (g' := fun k => laws_toPathEntryS.l0 k xs (List.replicate xs.length z27) 0) (fun k => ?_) ?_
  · unfold laws_toPathEntryS.f
    rw [if_pos (by omega), if_pos (by omega), Int.toNat_natCast]
  · refine loopMap xs cvPathEntry z27 (fun k ys i => laws_toPathEntryS.l0 k xs ys i) 0 ?_ ?_
    · intro i h ys k _ hy
      simp only [laws_toPathEntryS.l0, laws_toPathEntry.f, Option.bind_some]
      rw [if_pos (by omega), if_pos (by omega), if_pos (by omega), rd158 h, wrap_succ (by omega), Int.toNat_natCast]
      rfl
    · intro ys k _
      simp only [laws_toPathEntryS.l0]
      rw [if_neg (by omega)]
theorem eqPathEntryS (xs : List S27) (hl : xs.length ≤ 4194304) : Ev (fun k => laws_eqPathEntryS.f k xs xs) true := by
  refine ev_congr (g' := fun k => laws_eqPathEntryS.l0 k xs xs 0) (fun k => ?_) ?_
  · unfold laws_eqPathEntryS.f
    rw [if_pos rfl]
  · refine run_loop 1 (fun k i => laws_eqPathEntryS.l0 k xs xs (i : Int)) xs.length true 0 ?_ ?_
    · intro i h k _
      simp only [laws_eqPathEntryS.l0, laws_eqPathEntry.f, if_true, Option.bind_some]
      rw [if_pos (by omega), if_pos (by omega), if_pos (by omega), wrap_succ (by omega)]
    · intro k _
      simp only [laws_eqPathEntryS.l0]
      rw [if_neg (by omega)]
def fpStep (a : Int) (i : Nat) (_ : Unit) (x : S27) : Unit ⊕ Int := if x.f0 = a then .inr (i : Int) else .inl ()
/-- The place of the first entry of a destination, or -1. -/
def fp (xs : List S27) (a : Int) : Int := foldE (fpStep a) (fun _ => -1) xs 0 ()
theorem fp_range (xs : List S27) (a : Int) : fp xs a < 0 ∨ (0 ≤ fp xs a ∧ fp xs a < (xs.length : Int)) := by
  unfold fp
  refine foldE_inv (fun r => r < 0 ∨ (0 ≤ r ∧ r < (xs.length : Int))) _ _ (fun _ => .inl (by decide)) xs 0 () ?_
  intro j s x r _ h2 hs
  unfold fpStep at hs
  split at hs
  · cases hs; right; omega
  · cases hs
theorem implFP (xs : List S27) (a : Int) (hl : xs.length ≤ 4194304) : Ev (fun k => impl_findPath.f k xs a) (fp xs a) := by
  refine loopE 1 xs (fpStep a) (fun _ => -1) (fun k _ i => impl_findPath.l0 k a xs (xs.length : Int) i) 0 (fun _ _ => True) ?_ ?_ ?_ () trivial
  · intro i h s s' k _ _ hs
    unfold fpStep at hs
    split at hs
    · cases hs
    · rename_i hc
      refine ⟨?_, trivial⟩
      simp only [impl_findPath.l0]
      rw [if_pos (by omega), if_pos (by omega), if_pos (by omega), rd27 h, if_neg hc, wrap_succ (by omega)]
  · intro i h s r k _ _ hs
    unfold fpStep at hs
    split at hs
    · rename_i hc
      cases hs
      simp only [impl_findPath.l0]
      rw [if_pos (by omega), if_pos (by omega), if_pos (by omega), rd27 h, if_pos hc]
    · cases hs
  · intro s k _ _
    simp only [impl_findPath.l0]
    rw [if_neg (by omega)]
/-- What is known of a destination. -/
def pe (xs : List S27) (a : Int) : Int × Int × Int × Int × Int × Bool := if fp xs a < 0 then (0, 0, 0, 0, 0, false) else ((rd_T27 xs (fp xs a)).f0, (rd_T27 xs (fp xs a)).f1, (rd_T27 xs (fp xs a)).f2, (rd_T27 xs (fp xs a)).f3, (rd_T27 xs (fp xs a)).f4, true)
theorem implPE (xs : List S27) (a : Int) (hl : xs.length ≤ 4194304) : Ev (fun k => impl_PathEntryFor.f k xs a) (pe xs a) := by
  obtain ⟨K, e⟩ := implFP xs a hl
  dsimp only at e
  refine ⟨K, fun k hk => ?_⟩
  show impl_PathEntryFor.f k xs a = _
  unfold impl_PathEntryFor.f pe
  rw [e k hk, Option.bind_some]
  rcases fp_range xs a with h | h
  · rw [if_pos h, if_pos h]
  · rw [if_neg (show ¬ fp xs a < 0 by omega), if_neg (show ¬ fp xs a < 0 by omega), if_pos h.1, if_pos h.2]
theorem specFP (xs : List S27) (a : Int) (hl : xs.length ≤ 4194304) : Ev (fun k => spec_l35Find.f k xs a) (fp xs a) := by
  refine loopE 1 xs (fpStep a) (fun _ => -1) (fun k _ i => spec_l35Find.l0 k a i xs) 0 (fun _ _ => True) ?_ ?_ ?_ () trivial
  · intro i h s s' k _ _ hs
    unfold fpStep at hs
    split at hs
    · cases hs
    · rename_i hc
      refine ⟨?_, trivial⟩
      simp only [spec_l35Find.l0]
      rw [if_pos (by omega), if_pos (by omega), rd27 h, if_neg hc, wrap_succ (by omega)]
  · intro i h s r k _ _ hs
    unfold fpStep at hs
    split at hs
    · rename_i hc
      cases hs
      simp only [spec_l35Find.l0]
      rw [if_pos (by omega), if_pos (by omega), rd27 h, if_pos hc]
    · cases hs
  · intro s k _ _
    simp only [spec_l35Find.l0]
    rw [if_neg (by omega)]
theorem specPE (xs : List S27) (a : Int) (hl : xs.length ≤ 4194304) : Ev (fun k => spec_PathEntryFor.f k xs a) (pe xs a) := by
  obtain ⟨K, e⟩ := specFP xs a hl
  dsimp only at e
  refine ⟨K, fun k hk => ?_⟩
  show spec_PathEntryFor.f k xs a = _
  unfold spec_PathEntryFor.f pe
  rw [e k hk, Option.bind_some]
  rcases fp_range xs a with h | h
  · rw [if_pos h, if_pos h]
  · rw [if_neg (show ¬ fp xs a < 0 by omega), if_neg (show ¬ fp xs a < 0 by omega), if_pos h.1, if_pos h.2]

theorem FnExactPathEntryFor : OFnExactPathEntryFor.Pure := by
  intro l a ⟨hm, _⟩ _
  obtain ⟨t, ht, _, hl⟩ := szPathEntry l 1048576 (by omega) hm
  have hz : laws_szPathTable.f l 1048576 = some (if t < 0 then -1 else t) := by
    unfold laws_szPathTable.f; rw [ht, Option.bind_some]; split <;> rfl
  by_cases hneg : t < 0
  · exact ⟨0, by unfold laws_FnExactPathEntryFor.f; rw [hz, if_pos hneg, Option.bind_some, if_pos (by decide)]⟩
  rw [if_neg hneg] at hz
  have hl : l.length ≤ 1048576 := by have := hl (by omega); omega
  obtain ⟨X, hX⟩ : ∃ X, X = l.map cvPathEntry := ⟨_, rfl⟩
  have hXl : X.length ≤ 1048576 := by rw [hX]; simpa using hl
  obtain ⟨K1, e1⟩ := toPathEntryS l hl
  rw [← hX] at e1
  obtain ⟨K2, e2⟩ := implPE X a (by omega)
  obtain ⟨K3, e3⟩ := specPE X a (by omega)
  generalize pe X a = W at e2 e3
  obtain ⟨K4, e4⟩ := eqPathEntryS X (by omega)
  refine ⟨K1 + K2 + K3 + K4 + 1, ?_⟩
  generalize hk : K1 + K2 + K3 + K4 = k
  have a1_0 := e1 (k) (by omega)
  have a1_1 := e1 (k + 1) (by omega)
  have a2_0 := e2 (k) (by omega)
  have a2_1 := e2 (k + 1) (by omega)
  have a3_0 := e3 (k) (by omega)
  have a3_1 := e3 (k + 1) (by omega)
  have a4_0 := e4 (k) (by omega)
  have a4_1 := e4 (k + 1) (by omega)
  simp only [laws_FnExactPathEntryFor.f, laws_FnExactPathEntryFor.j0, laws_toPathTable.f, laws_eqPathTable.f, laws_eqPathEntry.f, a1_0, a1_1, a2_0, a2_1, a3_0, a3_1, a4_0, a4_1, hz, hneg, Option.bind_some, if_true, if_false, Bool.not_true, Bool.not_false, Bool.false_eq_true, reduceCtorEq, bne_self_eq_false]

end Go.Proofs.Ytohniomkenkdmaa.Pure
