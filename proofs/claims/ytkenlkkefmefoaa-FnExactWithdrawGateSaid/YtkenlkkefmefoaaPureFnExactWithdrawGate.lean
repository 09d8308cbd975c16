/- FnExactWithdrawGate: the pure statement: the functions that the law computes answer true. Conditions: none. -/
import Derived.Test.YtkenlkkefmefoaaOFnExactWithdrawGate
import Derived.Test.YtkenlkkefmefoaaPL
namespace Go.Proofs.Ytkenlkkefmefoaa.Pure
open Go Go.RowKit Go.Proofs.Ytkenlkkefmefoaa.PFnExactWithdrawGate Go.Proofs.YtkenlkkefmefoaaW.PrintWords Go.Proofs.YtkenlkkefmefoaaW.PrintLast Go.Proofs.YtkenlkkefmefoaaW.PrintMore Go.Proofs.Ytkenlkkefmefoaa.Open Go.Proofs.Ytkenlkkefmefoaa.OFnExactWithdrawGate Go.Proofs.Ytkenlkkefmefoaa.PL
set_option linter.unusedVariables false
set_option linter.unusedSimpArgs false
theorem szProxy (xs : List S54) (a : Int) (ha : 0 ≤ a ∧ a ≤ 1048576) (hm : xs.length ≤ maxLen) : ∃ t, laws_szProxyS.f xs a = some t ∧ t ≤ 1048576 ∧ (0 ≤ t → (xs.length : Int) ≤ a) := by
  unfold maxLen at hm
  unfold laws_szProxyS.f
  rw [wrap_id (by omega) (by omega)]
  split
  · exact ⟨_, rfl, by omega, fun h => absurd h (by omega)⟩
  · exact ⟨_, rfl, by omega, fun h => by omega⟩
theorem rd54 {xs : List S54} {i : Nat} (h : i < xs.length) : rd_T54 xs (i : Int) = xs[i] := getD_nat h
theorem rdset54 {xs : List S54} {v : S54} {i : Nat} (h : i < xs.length) : rd_T54 (xs.set i v) (i : Int) = v := getD_set h
theorem rdrange54 {n : Nat} {g : Nat → S54} {i : Nat} (h : i < n) : rd_T54 ((List.range n).map g) (i : Int) = g i := getD_range h
theorem rd49 {xs : List S49} {i : Nat} (h : i < xs.length) : rd_T49 xs (i : Int) = xs[i] := getD_nat h
theorem rdset49 {xs : List S49} {v : S49} {i : Nat} (h : i < xs.length) : rd_T49 (xs.set i v) (i : Int) = v := getD_set h
theorem rdrange49 {n : Nat} {g : Nat → S49} {i : Nat} (h : i < n) : rd_T49 ((List.range n).map g) (i : Int) = g i := getD_range h
def cvProxy (x : S54) : S49 := ⟨x.f0, x.f1⟩
theorem toProxyS (xs : List S54) (hl : xs.length ≤ 1048576) : Ev (fun k => laws_toProxyS.f k xs) (xs.map cvProxy) := by
  refine ev_congr (g' := fun k => laws_toProxyS.l0 k xs (List.replicate xs.length z49) 0) (fun k => ?_) ?_
  · unfold laws_toProxyS.f
    rw [if_pos (by omega), if_pos (by omega), Int.toNat_natCast]
  · refine loopMap xs cvProxy z49 (fun k ys i => laws_toProxyS.l0 k xs ys i) 0 ?_ ?_
    · intro i h ys k _ hy
      simp only [laws_toProxyS.l0, laws_toProxy.f, Option.bind_some]
      rw [if_pos (by omega), if_pos (by omega), if_pos (by omega), rd54 h, wrap_succ (by omega), Int.toNat_natCast]
      rfl
    · intro ys k _
      simp only [laws_toProxyS.l0]
      rw [if_neg (by omega)]
theorem eqProxyS (xs : List S49) (hl : xs.length ≤ 4194304) : Ev (fun k => laws_eqProxyS.f k xs xs) true := by
  refine ev_congr (g' := fun k => laws_eqProxyS.l0 k xs xs 0) (fun k => ?_) ?_
  · unfold laws_eqProxyS.f
    rw [if_pos rfl]
  · refine run_loop 1 (fun k i => laws_eqProxyS.l0 k xs xs (i : Int)) xs.length true 0 ?_ ?_
    · intro i h k _
      simp only [laws_eqProxyS.l0, laws_eqProxy.f, if_true, Option.bind_some]
      rw [if_pos (by omega), if_pos (by omega), if_pos (by omega), wrap_succ (by omega)]
    · intro k _
      simp only [laws_eqProxyS.l0]
      rw [if_neg (by omega)]
def mkProxy (i : Nat) : S49 := ⟨1 + 2 * (i : Int), 1 + 2 * (i : Int) + 1⟩
theorem markProxyS (xs : List S49) (hl : xs.length ≤ 4194304) : Ev (fun k => laws_markProxyS.f k xs 1) (1 + 2 * (xs.length : Int), (List.range xs.length).map mkProxy) := by
  refine ev_congr (g' := fun k => laws_markProxyS.l0 k xs (1 + 2 * ((0 : Nat) : Int)) 0) (fun k => rfl) ?_
  refine loopFill xs mkProxy (fun i => 1 + 2 * (i : Int)) (fun ys => (1 + 2 * (xs.length : Int), ys)) (fun k ys a i => laws_markProxyS.l0 k ys a i) 0 ?_ ?_
  · intro i h ys k _ hy
    have h' : i < ys.length := by omega
    simp only [laws_markProxyS.l0, Option.bind_some]
    rw [if_pos (by omega), if_pos (by omega), Int.toNat_natCast]
    repeat rw [wrap_id (by omega) (by omega)]
    simp only [List.set_set, rdset49 h', rd49 h']
    congr 1 <;> first | omega | (congr 1; simp only [mkProxy]; congr 1 <;> omega)
  · intro ys k _ hy
    simp only [laws_markProxyS.l0]
    rw [if_neg (by omega)]
theorem heldProxyS (n : Nat) (hl : n ≤ 4194304) : Ev (fun k => laws_heldProxyS.f k ((List.range n).map mkProxy) 1) (1 + 2 * (n : Int)) := by
  refine ev_congr (g' := fun k => laws_heldProxyS.l0 k ((List.range n).map mkProxy) (1 + 2 * ((0 : Nat) : Int)) ((0 : Nat) : Int)) (fun k => rfl) ?_
  refine run_loop 1 (fun k i => laws_heldProxyS.l0 k ((List.range n).map mkProxy) (1 + 2 * (i : Int)) (i : Int)) n _ 0 ?_ ?_
  · intro i h k _
    have hn : ((List.range n).map mkProxy).length = n := by simp
    simp only [laws_heldProxyS.l0, rdrange49 h, hn, mkProxy]
    rw [if_pos (by omega), if_pos (by omega)]
    simp only [if_true]
    repeat rw [wrap_id (by omega) (by omega)]
    repeat rw [if_pos (by omega)]
    congr 1 <;> omega
  · intro k _
    have hn : ((List.range n).map mkProxy).length = n := by simp
    simp only [laws_heldProxyS.l0, hn]
    rw [if_neg (by omega)]
def wdr (g : Int) (out : List S49) (x : S49) : List S49 := if x.f1 = g then out else out ++ [⟨x.f0, x.f1⟩]
theorem wdr_len (p0 : Int) (xs : List S49) : (xs.foldl (wdr p0) []).length ≤ xs.length := by
  have := foldl_len (wdr p0) (fun s x => by unfold wdr; split <;> simp) xs []
  simpa using this
theorem implWdr (xs : List S49) (g : Int) (hl : xs.length ≤ 1048577) : Ev (fun k => impl_WithdrawGate.f k xs g) (xs.foldl (wdr g) []) := by
  refine loopF 1 xs (wdr g) (fun s => s) (fun k s i => impl_WithdrawGate.l0 k g s xs (xs.length : Int) i) 0 (fun i s => s.length ≤ i) ?_ ?_ [] (by simp)
  · intro i h s k _ hs
    simp only [impl_WithdrawGate.l0, wdr]
    rw [if_pos (by omega), if_pos (by omega), if_pos (by omega), rd49 h, wrap_succ (by omega)]
    split
    · exact ⟨rfl, by omega⟩
    · rw [if_pos (by omega)]; exact ⟨rfl, by simp; omega⟩
  · intro s k _ hs
    simp only [impl_WithdrawGate.l0]
    rw [if_neg (by omega)]

theorem specWdr (xs : List S49) (g : Int) (hl : xs.length ≤ 1048576) : Ev (fun k => spec_WithdrawGate.f k xs g) (xs.foldl (wdr g) []) := by
  refine loopF 1 xs (wdr g) (fun s => s) (fun k s i => spec_WithdrawGate.l0 k xs g s i) 0 (fun i s => s.length ≤ i) ?_ ?_ [] (by simp)
  · intro i h s k _ hs
    simp only [spec_WithdrawGate.l0, wdr]
    rw [if_pos (by omega), if_pos (by omega), rd49 h, wrap_succ (by omega)]
    split
    · exact ⟨rfl, by omega⟩
    · rw [if_pos (by omega)]; exact ⟨rfl, by simp; omega⟩
  · intro s k _ hs
    simp only [spec_WithdrawGate.l0]
    rw [if_neg (by omega)]
theorem FnExactWithdrawGate : OFnExactWithdrawGate.Pure := by
  intro l p0 ⟨hm, _⟩ _
  obtain ⟨t, ht, _, hl⟩ := szProxy l 1048576 (by omega) hm
  by_cases hneg : t < 0
  · exact ⟨0, by unfold laws_FnExactWithdrawGate.f; rw [ht, Option.bind_some, if_pos hneg]⟩
  have hl : l.length ≤ 1048576 := by have := hl (by omega); omega
  obtain ⟨X, hX⟩ : ∃ X, X = l.map cvProxy := ⟨_, rfl⟩
  have hXl : X.length ≤ 1048576 := by rw [hX]; simpa using hl
  obtain ⟨K1, e1⟩ := toProxyS l hl
  obtain ⟨K2, e2⟩ := specWdr X p0 hXl
  obtain ⟨K3, e3⟩ := implWdr X p0 (by omega)
  have hW0 : (X.foldl (wdr p0) []).length ≤ 1048577 := by have := wdr_len p0 X; omega
  rw [← hX] at e1
  generalize (X.foldl (wdr p0) []) = W at e2 e3 hW0
  obtain ⟨K4, e4⟩ := eqProxyS W (by omega)
  obtain ⟨K5, e5⟩ := eqProxyS X (by omega)
  obtain ⟨K6, e6⟩ := markProxyS X (by omega)
  obtain ⟨K7, e7⟩ := markProxyS W (by omega)
  obtain ⟨K8, e8⟩ := heldProxyS W.length (by omega)
  have hn1 : ¬ (1 + 2 * (X.length : Int) < 0) := by omega
  have hn2 : ¬ (1 + 2 * (W.length : Int) < 0) := by omega
  refine ⟨K1 + K2 + K3 + K4 + K5 + K6 + K7 + K8 + 1, ?_⟩
  generalize hk : K1 + K2 + K3 + K4 + K5 + K6 + K7 + K8 = k
  have a1_0 := e1 (k) (by omega)
  have a1_1 := e1 (k + 1) (by omega)
  have a2_0 := e2 (k) (by omega)
  have a2_1 := e2 (k + 1) (by omega)
  have a3_0 := e3 (k) (by omega)
  have a3_1 := e3 (k + 1) (by omega)
  have a4_0 := e4 (k) (by omega)
  have a4_1 := e4 (k + 1) (by omega)
  have a5_0 := e5 (k) (by omega)
  have a5_1 := e5 (k + 1) (by omega)
  have a6_0 := e6 (k) (by omega)
  have a6_1 := e6 (k + 1) (by omega)
  have a7_0 := e7 (k) (by omega)
  have a7_1 := e7 (k + 1) (by omega)
  have a8_0 := e8 (k) (by omega)
  have a8_1 := e8 (k + 1) (by omega)
  simp only [laws_FnExactWithdrawGate.f, laws_FnExactWithdrawGate.j0, a1_0, a1_1, a2_0, a2_1, a3_0, a3_1, a4_0, a4_1, a5_0, a5_1, a6_0, a6_1, a7_0, a7_1, a8_0, a8_1, ht, hneg, hn1, hn2, Option.bind_some, if_true, if_false, Bool.not_true, Bool.not_false, Bool.false_eq_true, reduceCtorEq, bne_self_eq_false]

end Go.Proofs.Ytkenlkkefmefoaa.Pure
