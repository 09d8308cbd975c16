/- FnExactDropNextHop: the pure statement: the functions that the law computes answer true. Conditions: none. -/
import Derived.Test.YtohniomkenkdmaaOFnExactDropNextHop
import Derived.Test.YtohniomkenkdmaaPL
namespace Go.Proofs.Ytohniomkenkdmaa.Pure
open Go Go.RowKit Go.Proofs.Ytohniomkenkdmaa.XFnExactDropNextHop Go.Proofs.YtohniomkenkdmaaW.PrintWords Go.Proofs.YtohniomkenkdmaaW.PrintLast Go.Proofs.YtohniomkenkdmaaW.PrintMore Go.Proofs.Ytohniomkenkdmaa.Open Go.Proofs.Ytohniomkenkdmaa.OFnExactDropNextHop Go.Proofs.Ytohniomkenkdmaa.PL
set_option linter.unusedVariables false
set_option linter.unusedSimpArgs false
theorem szPathEntry (xs : List S158) (a : Int) (ha : 0 ≤ a ∧ a ≤ 1048576) (hm : xs.length ≤ maxLen) : ∃ t, laws_szPathEntryS.f xs a = some t ∧ t ≤ 1048576 ∧ (0 ≤ t → (xs.length : Int) ≤ a) := by
  unfold maxLen at hm
  unfold laws_szPathEntryS.f
  rw [wrap_id (by omega) (by omega)]
  split
  · exact ⟨_, rfl, by omega, fun h => absurd h (by omega)⟩
  · exact ⟨_, rfl, by omega, fun h => by omega⟩
theorem rd158 {xs : List S158} {i : Nat} (h : i < xs.length) : rd_T158 xs (i : Int) = xs[i] := getD_nat h
theorem rdset158 {xs : List S158} {v : S158} {i : Nat} (h : i < xs.length) : rd_T158 (xs.set i v) (i : Int) = v := getD_set h
theorem rdrange158 {n : Nat} {g : Nat → S158} {i : Nat} (h : i < n) : rd_T158 ((List.range n).map g) (i : Int) = g i := getD_range h
theorem rd27 {xs : List S27} {i : Nat} (h : i < xs.length) : rd_T27 xs (i : Int) = xs[i] := getD_nat h
theorem rdset27 {xs : List S27} {v : S27} {i : Nat} (h : i < xs.length) : rd_T27 (xs.set i v) (i : Int) = v := getD_set h
theorem rdrange27 {n : Nat} {g : Nat → S27} {i : Nat} (h : i < n) : rd_T27 ((List.range n).map g) (i : Int) = g i := getD_range h
def cvPathEntry (x : S158) : S27 := ⟨x.f0, x.f1, x.f2, x.f3, x.f4⟩
theorem toPathEntryS (xs : List S158) (hl : xs.length ≤ 1048576) : Ev (fun k => laws_toPathEntryS.f k xs) (xs.map cvPathEntry) := by
  refine ev_congr (g' := fun k => laws_toPathEntryS.l0 k xs (List.replicate xs.length z27) 0) (fun k => ?_) ?_
  · unfold laws_toPathEntryS.f
    rw [if_pos (by omega), if_pos (by omega), Int.toNat_natCast]
  · refine loopMap xs cvPathEntry z27 (fun k ys i => laws_toPathEntryS.l0 k xs ys i) 0 ?_ ?_
    · intro i h ys k _ hy
      simp only [laws_toPathEntryS.l0, laws_toPathEntry.f, Option.bind_some]
      rw [if_pos (by omega), if_pos (by omega), if_pos (by omega), rd158 h, wrap_succ (by omega), Int.toNat_natCast]
      rfl
    · intro ys k _
      simp only [laws_toPathEntryS.l0]
      rw [if_neg (by omega)]
theorem eqPathEntryS (xs : List S27) (hl : xs.length ≤ 4194304) : Ev (fun k => laws_eqPathEntryS.f k xs xs) true := by
  refine ev_congr (g' := fun k => laws_eqPathEntryS.l0 k xs xs 0) (fun k => ?_) ?_
  · unfold laws_eqPathEntryS.f
    rw [if_pos rfl]
  · refine run_loop 1 (fun k i => laws_eqPathEntryS.l0 k xs xs (i : Int)) xs.length true 0 ?_ ?_
    · intro i h k _
      simp only [laws_eqPathEntryS.l0, laws_eqPathEntry.f, if_true, Option.bind_some]
      rw [if_pos (by omega), if_pos (by omega), if_pos (by omega), wrap_succ (by omega)]
    · intro k _
      simp only [laws_eqPathEntryS.l0]
      rw [if_neg (by omega)]
def mkPathEntry (i : Nat) : S27 := ⟨1 + 5 * (i : Int), 1 + 5 * (i : Int) + 1, 1 + 5 * (i : Int) + 2, 1 + 5 * (i : Int) + 3, 1 + 5 * (i : Int) + 4⟩
theorem markPathEntryS (xs : List S27) (hl : xs.length ≤ 4194304) : Ev (fun k => laws_markPathEntryS.f k xs 1) (1 + 5 * (xs.length : Int), (List.range xs.length).map mkPathEntry) := by
  refine ev_congr (g' := fun k => laws_markPathEntryS.l0 k xs (1 + 5 * ((0 : Nat) : Int)) 0) (fun k => rfl) ?_
  refine loopFill xs mkPathEntry (fun i => 1 + 5 * (i : Int)) (fun ys => (1 + 5 * (xs.length : Int), ys)) (fun k ys a i => laws_markPathEntryS.l0 k ys a i) 0 ?_ ?_
  · intro i h ys k _ hy
    have h' : i < ys.length := by omega
    simp only [laws_markPathEntryS.l0, Option.bind_some]
    rw [if_pos (by omega), if_pos (by omega), Int.toNat_natCast]
    repeat rw [wrap_id (by omega) (by omega)]
    simp only [List.set_set, rdset27 h', rd27 h']
    congr 1 <;> first | omega | (congr 1; simp only [mkPathEntry]; congr 1 <;> omega)
  · intro ys k _ hy
    simp only [laws_markPathEntryS.l0]
    rw [if_neg (by omega)]
theorem heldPathEntryS (n : Nat) (hl : n ≤ 4194304) : Ev (fun k => laws_heldPathEntryS.f k ((List.range n).map mkPathEntry) 1) (1 + 5 * (n : Int)) := by
  refine ev_congr (g' := fun k => laws_heldPathEntryS.l0 k ((List.range n).map mkPathEntry) (1 + 5 * ((0 : Nat) : Int)) ((0 : Nat) : Int)) (fun k => rfl) ?_
  refine run_loop 1 (fun k i => laws_heldPathEntryS.l0 k ((List.range n).map mkPathEntry) (1 + 5 * (i : Int)) (i : Int)) n _ 0 ?_ ?_
  · intro i h k _
    have hn : ((List.range n).map mkPathEntry).length = n := by simp
    simp only [laws_heldPathEntryS.l0, rdrange27 h, hn, mkPathEntry]
    rw [if_pos (by omega), if_pos (by omega)]
    simp only [if_true]
    repeat rw [wrap_id (by omega) (by omega)]
    repeat rw [if_pos (by omega)]
    congr 1 <;> omega
  · intro k _
    have hn : ((List.range n).map mkPathEntry).length = n := by simp
    simp only [laws_heldPathEntryS.l0, hn]
    rw [if_neg (by omega)]

def keep (a : Int) (x : S27) : Bool := decide (¬ x.f1 = a)
theorem implF (xs : List S27) (a : Int) (hl : xs.length ≤ 1048576) : Ev (fun k => impl_DropNextHop.f k xs a) (xs.filter (keep a)) := by
  refine loopFilter 1 xs (keep a) (fun out => (out)) (fun k out i => impl_DropNextHop.l0 k a xs (xs.length : Int) i out) 0 ?_ ?_ ?_
  · intro i h out k _ ho hk
    unfold keep at hk
    simp only [impl_DropNextHop.l0]
    rw [if_pos (by omega), if_pos (by omega), if_pos (by omega), rd27 h, wrap_succ (by omega)]
    simp only [decide_eq_true_eq] at hk
    rw [if_neg hk, if_pos (by omega)]
  · intro i h out k _ hk
    unfold keep at hk
    simp only [impl_DropNextHop.l0]
    rw [if_pos (by omega), if_pos (by omega), if_pos (by omega), rd27 h, wrap_succ (by omega)]
    simp only [decide_eq_false_iff_not, Decidable.not_not] at hk
    rw [if_pos hk]
  · intro out k _ _
    simp only [impl_DropNextHop.l0]
    rw [if_neg (by omega)]
theorem specF (xs : List S27) (a : Int) (hl : xs.length ≤ 1048576) : Ev (fun k => spec_DropNextHop.f k xs a) (xs.filter (keep a)) := by
  refine loopFilter 1 xs (keep a) (fun out => (out)) (fun k out i => spec_DropNextHop.l0 k a i xs out) 0 ?_ ?_ ?_
  · intro i h out k _ ho hk
    unfold keep at hk
    simp only [spec_DropNextHop.l0]
    rw [if_pos (by omega), if_pos (by omega), rd27 h, wrap_succ (by omega)]
    simp only [decide_eq_true_eq] at hk
    rw [if_neg hk, if_pos (by omega)]
  · intro i h out k _ hk
    unfold keep at hk
    simp only [spec_DropNextHop.l0]
    rw [if_pos (by omega), if_pos (by omega), rd27 h, wrap_succ (by omega)]
    simp only [decide_eq_false_iff_not, Decidable.not_not] at hk
    rw [if_pos hk]
  · intro out k _ _
    simp only [spec_DropNextHop.l0]
    rw [if_neg (by omega)]
theorem FnExactDropNextHop : OFnExactDropNextHop.Pure := by
  intro l a ⟨hm, _⟩ _
  obtain ⟨t, ht, _, hl⟩ := szPathEntry l 1048576 (by omega) hm
  have hz : laws_szPathTable.f l 1048576 = some (if t < 0 then -1 else t) := by
    unfold laws_szPathTable.f; rw [ht, Option.bind_some]; split <;> rfl
  by_cases hneg : t < 0
  · exact ⟨0, by unfold laws_FnExactDropNextHop.f; rw [hz, if_pos hneg, Option.bind_some, if_pos (by decide)]⟩
  rw [if_neg hneg] at hz
  have hl : l.length ≤ 1048576 := by have := hl (by omega); omega
  obtain ⟨X, hX⟩ : ∃ X, X = l.map cvPathEntry := ⟨_, rfl⟩
  have hXl : X.length ≤ 1048576 := by rw [hX]; simpa using hl
  obtain ⟨K1, e1⟩ := toPathEntryS l hl
  rw [← hX] at e1
  obtain ⟨K2, e2⟩ := specF X a hXl
  obtain ⟨K3, e3⟩ := implF X a hXl
  have hW0 : (X.filter (keep a)).length ≤ 1048576 := filter_le X _ hXl
  generalize X.filter (keep a) = W at e2 e3 hW0
  obtain ⟨K4, e4⟩ := eqPathEntryS W (by omega)
  obtain ⟨K5, e5⟩ := eqPathEntryS X (by omega)
  obtain ⟨K6, e6⟩ := markPathEntryS X (by omega)
  obtain ⟨K7, e7⟩ := markPathEntryS W (by omega)
  obtain ⟨K8, e8⟩ := heldPathEntryS W.length (by omega)
  have hn1 : ¬ (1 + 5 * (X.length : Int) < 0) := by omega
  have hn2 : ¬ (1 + 5 * (W.length : Int) < 0) := by omega
  refine ⟨K1 + K2 + K3 + K4 + K5 + K6 + K7 + K8 + 1, ?_⟩
  generalize hk : K1 + K2 + K3 + K4 + K5 + K6 + K7 + K8 = k
  have a1_0 := e1 (k) (by omega)
  have a1_1 := e1 (k + 1) (by omega)
  have a2_0 := e2 (k) (by omega)
  have a2_1 := e2 (k + 1) (by omega)
  have a3_0 := e3 (k) (by omega)
  have a3_1 := e3 (k + 1) (by omega)
  have a4_0 := e4 (k) (by omega)
  have a4_1 := e4 (k + 1) (by omega)
  have a5_0 := e5 (k) (by omega)
  have a5_1 := e5 (k + 1) (by omega)
  have a6_0 := e6 (k) (by omega)
  have a6_1 := e6 (k + 1) (by omega)
  have a7_0 := e7 (k) (by omega)
  have a7_1 := e7 (k + 1) (by omega)
  have a8_0 := e8 (k) (by omega)
  have a8_1 := e8 (k + 1) (by omega)
  simp only [laws_FnExactDropNextHop.f, laws_FnExactDropNextHop.j0, laws_toPathTable.f, laws_eqPathTable.f, laws_markPathTable.f, laws_heldPathTable.f, a1_0, a1_1, a2_0, a2_1, a3_0, a3_1, a4_0, a4_1, a5_0, a5_1, a6_0, a6_1, a7_0, a7_1, a8_0, a8_1, hz, hneg, hn1, hn2, Option.bind_some, if_true, if_false, Bool.not_true, Bool.not_false, Bool.false_eq_true, reduceCtorEq, bne_self_eq_false]

end Go.Proofs.Ytohniomkenkdmaa.Pure
