/- FnExactWithoutNode: the pure statement: the functions that the law computes answer true. Conditions: none. -/
import Derived.Test.YtohniomkenkdmaaOFnExactWithoutNode
import Derived.Test.YtohniomkenkdmaaPL
namespace Go.Proofs.Ytohniomkenkdmaa.Pure
open Go Go.RowKit Go.Proofs.Ytohniomkenkdmaa.XFnExactWithoutNode Go.Proofs.YtohniomkenkdmaaW.PrintWords Go.Proofs.YtohniomkenkdmaaW.PrintLast Go.Proofs.YtohniomkenkdmaaW.PrintMore Go.Proofs.Ytohniomkenkdmaa.Open Go.Proofs.Ytohniomkenkdmaa.OFnExactWithoutNode Go.Proofs.Ytohniomkenkdmaa.PL
set_option linter.unusedVariables false
set_option linter.unusedSimpArgs false
theorem szMeshLink (xs : List S167) (a : Int) (ha : 0 ≤ a ∧ a ≤ 1048576) (hm : xs.length ≤ maxLen) : ∃ t, laws_szMeshLinkS.f xs a = some t ∧ t ≤ 1048576 ∧ (0 ≤ t → (xs.length : Int) ≤ a) := by
  unfold maxLen at hm
  unfold laws_szMeshLinkS.f
  rw [wrap_id (by omega) (by omega)]
  split
  · exact ⟨_, rfl, by omega, fun h => absurd h (by omega)⟩
  · exact ⟨_, rfl, by omega, fun h => by omega⟩
theorem rd167 {xs : List S167} {i : Nat} (h : i < xs.length) : rd_T167 xs (i : Int) = xs[i] := getD_nat h
theorem rdset167 {xs : List S167} {v : S167} {i : Nat} (h : i < xs.length) : rd_T167 (xs.set i v) (i : Int) = v := getD_set h
theorem rdrange167 {n : Nat} {g : Nat → S167} {i : Nat} (h : i < n) : rd_T167 ((List.range n).map g) (i : Int) = g i := getD_range h
theorem rd142 {xs : List S142} {i : Nat} (h : i < xs.length) : rd_T142 xs (i : Int) = xs[i] := getD_nat h
theorem rdset142 {xs : List S142} {v : S142} {i : Nat} (h : i < xs.length) : rd_T142 (xs.set i v) (i : Int) = v := getD_set h
theorem rdrange142 {n : Nat} {g : Nat → S142} {i : Nat} (h : i < n) : rd_T142 ((List.range n).map g) (i : Int) = g i := getD_range h
def cvMeshLink (x : S167) : S142 := ⟨x.f0, x.f1, x.f2, x.f3⟩
theorem toMeshLinkS (xs : List S167) (hl : xs.length ≤ 1048576) : Ev (fun k => laws_toMeshLinkS.f k xs) (xs.map cvMeshLink) := by
  refine ev_congr (g' := fun k => laws_toMeshLinkS.l0 k xs (List.replicate xs.length z142) 0) (fun k => ?_) ?_
  · unfold laws_toMeshLinkS.f
    rw [if_pos (by omega), if_pos (by omega), Int.toNat_natCast]
  · refine loopMap xs cvMeshLink z142 (fun k ys i => laws_toMeshLinkS.l0 k xs ys i) 0 ?_ ?_
    · intro i h ys k _ hy
      simp only [laws_toMeshLinkS.l0, laws_toMeshLink.f, Option.bind_some]
      rw [if_pos (by omega), if_pos (by omega), if_pos (by omega), rd167 h, wrap_succ (by omega), Int.toNat_natCast]
      rfl
    · intro ys k _
      simp only [laws_toMeshLinkS.l0]
      rw [if_neg (by omega)]
theorem eqMeshLinkS (xs : List S142) (hl : xs.length ≤ 4194304) : Ev (fun k => laws_eqMeshLinkS.f k xs xs) true := by
  refine ev_congr (g' := fun k => laws_eqMeshLinkS.l0 k xs xs 0) (fun k => ?_) ?_
  · unfold laws_eqMeshLinkS.f
    rw [if_pos rfl]
  · refine run_loop 1 (fun k i => laws_eqMeshLinkS.l0 k xs xs (i : Int)) xs.length true 0 ?_ ?_
    · intro i h k _
      simp only [laws_eqMeshLinkS.l0, laws_eqMeshLink.f, if_true, Option.bind_some]
      rw [if_pos (by omega), if_pos (by omega), if_pos (by omega), wrap_succ (by omega)]
    · intro k _
      simp only [laws_eqMeshLinkS.l0]
      rw [if_neg (by omega)]
def mkMeshLink (i : Nat) : S142 := ⟨1 + 4 * (i : Int), 1 + 4 * (i : Int) + 1, 1 + 4 * (i : Int) + 2, 1 + 4 * (i : Int) + 3⟩
theorem markMeshLinkS (xs : List S142) (hl : xs.length ≤ 4194304) : Ev (fun k => laws_markMeshLinkS.f k xs 1) (1 + 4 * (xs.length : Int), (List.range xs.length).map mkMeshLink) := by
  refine ev_congr (g' := fun k => laws_markMeshLinkS.l0 k xs (1 + 4 * ((0 : Nat) : Int)) 0) (fun k => rfl) ?_
  refine loopFill xs mkMeshLink (fun i => 1 + 4 * (i : Int)) (fun ys => (1 + 4 * (xs.length : Int), ys)) (fun k ys a i => laws_markMeshLinkS.l0 k ys a i) 0 ?_ ?_
  · intro i h ys k _ hy
    have h' : i < ys.length := by omega
    simp only [laws_markMeshLinkS.l0, Option.bind_some]
    rw [if_pos (by omega), if_pos (by omega), Int.toNat_natCast]
    repeat rw [wrap_id (by omega) (by omega)]
    simp only [List.set_set, rdset142 h', rd142 h']
    congr 1 <;> first | omega | (congr 1; simp only [mkMeshLink]; congr 1 <;> omega)
  · intro ys k _ hy
    simp only [laws_markMeshLinkS.l0]
    rw [if_neg (by omega)]
theorem heldMeshLinkS (n : Nat) (hl : n ≤ 4194304) : Ev (fun k => laws_heldMeshLinkS.f k ((List.range n).map mkMeshLink) 1) (1 + 4 * (n : Int)) := by
  refine ev_congr (g' := fun k => laws_heldMeshLinkS.l0 k ((List.range n).map mkMeshLink) (1 + 4 * ((0 : Nat) : Int)) ((0 : Nat) : Int)) (fun k => rfl) ?_
  refine run_loop 1 (fun k i => laws_heldMeshLinkS.l0 k ((List.range n).map mkMeshLink) (1 + 4 * (i : Int)) (i : Int)) n _ 0 ?_ ?_
  · intro i h k _
    have hn : ((List.range n).map mkMeshLink).length = n := by simp
    simp only [laws_heldMeshLinkS.l0, rdrange142 h, hn, mkMeshLink]
    rw [if_pos (by omega), if_pos (by omega)]
    simp only [if_true]
    repeat rw [wrap_id (by omega) (by omega)]
    repeat rw [if_pos (by omega)]
    congr 1 <;> omega
  · intro k _
    have hn : ((List.range n).map mkMeshLink).length = n := by simp
    simp only [laws_heldMeshLinkS.l0, hn]
    rw [if_neg (by omega)]

def keep (a : Int) (x : S142) : Bool := decide (¬ x.f0 = a) && decide (¬ x.f1 = a)
theorem implF (n : Int) (xs : List S142) (a : Int) (hl : xs.length ≤ 1048576) : Ev (fun k => impl_WithoutNode.f k n xs a) ((n, xs.filter (keep a))) := by
  refine loopFilter 1 xs (keep a) (fun out => ((n, out))) (fun k out i => impl_WithoutNode.l0 k a xs (xs.length : Int) i n out) 0 ?_ ?_ ?_
  · intro i h out k _ ho hk
    unfold keep at hk
    simp only [impl_WithoutNode.l0]
    rw [if_pos (by omega), if_pos (by omega), if_pos (by omega), rd142 h, wrap_succ (by omega)]
    simp only [Bool.and_eq_true, decide_eq_true_eq] at hk
    rw [if_neg hk.1, if_neg hk.2, if_pos (by omega)]
  · intro i h out k _ hk
    unfold keep at hk
    simp only [impl_WithoutNode.l0]
    rw [if_pos (by omega), if_pos (by omega), if_pos (by omega), rd142 h, wrap_succ (by omega)]
    by_cases h0 : xs[i].f0 = a
    · rw [if_pos h0]
    · by_cases h1 : xs[i].f1 = a
      · rw [if_neg h0, if_pos h1]
      · simp [h0, h1] at hk
  · intro out k _ _
    simp only [impl_WithoutNode.l0]
    rw [if_neg (by omega)]
theorem specF (n : Int) (xs : List S142) (a : Int) (hl : xs.length ≤ 1048576) : Ev (fun k => spec_WithoutNode.f k n xs a) ((n, xs.filter (keep a))) := by
  refine loopFilter 1 xs (keep a) (fun out => ((n, out))) (fun k out i => spec_WithoutNode.l0 k a i n xs n out) 0 ?_ ?_ ?_
  · intro i h out k _ ho hk
    unfold keep at hk
    simp only [spec_WithoutNode.l0]
    rw [if_pos (by omega), if_pos (by omega), rd142 h, wrap_succ (by omega)]
    simp only [Bool.and_eq_true, decide_eq_true_eq] at hk
    rw [if_neg hk.1, if_neg hk.2, if_pos (by omega)]
  · intro i h out k _ hk
    unfold keep at hk
    simp only [spec_WithoutNode.l0]
    rw [if_pos (by omega), if_pos (by omega), rd142 h, wrap_succ (by omega)]
    by_cases h0 : xs[i].f0 = a
    · rw [if_pos h0]
    · by_cases h1 : xs[i].f1 = a
      · rw [if_neg h0, if_pos h1]
      · simp [h0, h1] at hk
  · intro out k _ _
    simp only [spec_WithoutNode.l0]
    rw [if_neg (by omega)]
theorem FnExactWithoutNode : OFnExactWithoutNode.Pure := by
  intro n l a _ ⟨hm, _⟩ _
  obtain ⟨t, ht, _, hl⟩ := szMeshLink l 1048576 (by omega) hm
  have hz : laws_szMesh.f n l 1048576 = some (if t < 0 then -1 else t) := by
    unfold laws_szMesh.f; rw [ht, Option.bind_some]; split <;> rfl
  by_cases hneg : t < 0
  · exact ⟨0, by unfold laws_FnExactWithoutNode.f; rw [hz, if_pos hneg, Option.bind_some, if_pos (by decide)]⟩
  rw [if_neg hneg] at hz
  have hl : l.length ≤ 1048576 := by have := hl (by omega); omega
  obtain ⟨X, hX⟩ : ∃ X, X = l.map cvMeshLink := ⟨_, rfl⟩
  have hXl : X.length ≤ 1048576 := by rw [hX]; simpa using hl
  obtain ⟨K1, e1⟩ := toMeshLinkS l hl
  rw [← hX] at e1
  obtain ⟨K2, e2⟩ := specF n X a hXl
  obtain ⟨K3, e3⟩ := implF n X a hXl
  have hW0 : (X.filter (keep a)).length ≤ 1048576 := filter_le X _ hXl
  generalize X.filter (keep a) = W at e2 e3 hW0
  obtain ⟨K4, e4⟩ := eqMeshLinkS W (by omega)
  obtain ⟨K5, e5⟩ := eqMeshLinkS X (by omega)
  obtain ⟨K6, e6⟩ := markMeshLinkS X (by omega)
  obtain ⟨K7, e7⟩ := markMeshLinkS W (by omega)
  obtain ⟨K8, e8⟩ := heldMeshLinkS W.length (by omega)
  have hn1 : ¬ (1 + 4 * (X.length : Int) < 0) := by omega
  have hn2 : ¬ (1 + 4 * (W.length : Int) < 0) := by omega
  refine ⟨K1 + K2 + K3 + K4 + K5 + K6 + K7 + K8 + 1, ?_⟩
  generalize hk : K1 + K2 + K3 + K4 + K5 + K6 + K7 + K8 = k
  have a1_0 := e1 (k) (by omega)
  have a1_1 := e1 (k + 1) (by omega)
  have a2_0 := e2 (k) (by omega)
  have a2_1 := e2 (k + 1) (by omega)
  have a3_0 := e3 (k) (by omega)
  have a3_1 := e3 (k + 1) (by omega)
  have a4_0 := e4 (k) (by omega)
  have a4_1 := e4 (k + 1) (by omega)
  have a5_0 := e5 (k) (by omega)
  have a5_1 := e5 (k + 1) (by omega)
  have a6_0 := e6 (k) (by omega)
  have a6_1 := e6 (k + 1) (by omega)
  have a7_0 := e7 (k) (by omega)
  have a7_1 := e7 (k + 1) (by omega)
  have a8_0 := e8 (k) (by omega)
  have a8_1 := e8 (k + 1) (by omega)
  simp only [laws_FnExactWithoutNode.f, laws_FnExactWithoutNode.j0, laws_toMesh.f, laws_eqMesh.f, laws_markMesh.f, laws_heldMesh.f, a1_0, a1_1, a2_0, a2_1, a3_0, a3_1, a4_0, a4_1, a5_0, a5_1, a6_0, a6_1, a7_0, a7_1, a8_0, a8_1, hz, hneg, hn1, hn2, Option.bind_some, if_true, if_false, Bool.not_true, Bool.not_false, Bool.false_eq_true, reduceCtorEq, bne_self_eq_false]

end Go.Proofs.Ytohniomkenkdmaa.Pure
