/- FnExactGateFor: the pure statement. Conditions: none. -/
import Derived.Test.YtkenlkkefmefoaaOFnExactGateFor
import Derived.Test.YtkenlkkefmefoaaPL
namespace Go.Proofs.Ytkenlkkefmefoaa.Pure
open Go Go.RowKit Go.Proofs.Ytkenlkkefmefoaa.PFnExactGateFor Go.Proofs.YtkenlkkefmefoaaW.PrintWords Go.Proofs.YtkenlkkefmefoaaW.PrintLast Go.Proofs.Ytkenlkkefmefoaa.Open Go.Proofs.Ytkenlkkefmefoaa.OFnExactGateFor Go.Proofs.Ytkenlkkefmefoaa.PL

theorem rd54 {xs : List S54} {i : Nat} (h : i < xs.length) : rd_T54 xs (i : Int) = xs[i] := getD_nat h
theorem rd49 {xs : List S49} {i : Nat} (h : i < xs.length) : rd_T49 xs (i : Int) = xs[i] := getD_nat h

def cv (x : S54) : S49 := ⟨x.f0, x.f1⟩
theorem toProxyS (xs : List S54) (hl : xs.length ≤ 1048576) : ∀ k, xs.length < k → laws_toProxyS.f k xs = some (xs.map cv) := by
  intro k hk
  unfold laws_toProxyS.f
  rw [if_pos (by omega), if_pos (by omega), Int.toNat_natCast]
  refine loopMap xs cv z49 (fun k ys i => laws_toProxyS.l0 k xs ys i) 0 ?_ ?_ k (by omega)
  · intro i h ys k _ hy
    simp only [laws_toProxyS.l0, laws_toProxy.f, Option.bind_some]
    rw [if_pos (by omega), if_pos (by omega), if_pos (by omega), rd54 h, wrap_succ (by omega), Int.toNat_natCast]
    rfl
  · intro ys k _
    simp only [laws_toProxyS.l0]
    rw [if_neg (by omega)]

theorem eqProxyS (xs : List S49) (hl : xs.length ≤ 1048576) : ∀ k, xs.length < k → laws_eqProxyS.f k xs xs = some true := by
  intro k hk
  unfold laws_eqProxyS.f
  rw [if_pos rfl]
  refine run_loop (fun k i => laws_eqProxyS.l0 k xs xs (i : Int)) xs.length true 0 ?_ ?_ k (by omega)
  · intro i h k _
    simp only [laws_eqProxyS.l0, laws_eqProxy.f, if_true, Option.bind_some]
    rw [if_pos (by omega), if_pos (by omega), if_pos (by omega), wrap_succ (by omega)]
  · intro k _
    simp only [laws_eqProxyS.l0]
    rw [if_neg (by omega)]

def gate (st : Int) (g : Int) (x : S49) : Int := if x.f0 = st then x.f1 else g
theorem specGate (xs : List S49) (a : Int) (hl : xs.length ≤ 1048576) : ∀ k, xs.length < k → spec_GateFor.f k xs a = some (xs.foldl (gate a) (-1)) := by
  intro k hk
  unfold spec_GateFor.f
  refine loopF xs (gate a) id (fun k s i => spec_GateFor.l0 k xs a s i) 0 (fun _ _ => True) ?_ ?_ (-1) trivial k (by omega)
  · intro i h s k _ _
    refine ⟨?_, trivial⟩
    simp only [spec_GateFor.l0, gate]
    rw [if_pos (by omega), if_pos (by omega), rd49 h, wrap_succ (by omega)]
    split <;> rfl
  · intro s k _ _
    simp only [spec_GateFor.l0]
    rw [if_neg (by omega)]; rfl
theorem implGate (xs : List S49) (a : Int) (hl : xs.length ≤ 1048576) : ∀ k, xs.length < k → impl_GateFor.f k xs a = some (xs.foldl (gate a) (-1)) := by
  intro k hk
  unfold impl_GateFor.f
  refine loopF xs (gate a) id (fun k s i => impl_GateFor.l0 k a s xs (xs.length : Int) i) 0 (fun _ _ => True) ?_ ?_ (-1) trivial k (by omega)
  · intro i h s k _ _
    refine ⟨?_, trivial⟩
    simp only [impl_GateFor.l0, gate]
    rw [if_pos (by omega), if_pos (by omega), if_pos (by omega), rd49 h, wrap_succ (by omega)]
    split <;> rfl
  · intro s k _ _
    simp only [impl_GateFor.l0]
    rw [if_neg (by omega)]; rfl

theorem szS (xs : List S54) (hm : xs.length ≤ maxLen) : ∃ t, laws_szProxyS.f xs 1048576 = some t ∧ (0 ≤ t → xs.length ≤ 1048576) := by
  unfold maxLen at hm
  unfold laws_szProxyS.f
  rw [wrap_id (by omega) (by omega)]
  split
  · exact ⟨_, rfl, fun h => absurd h (by omega)⟩
  · exact ⟨_, rfl, fun h => by omega⟩

theorem FnExactGateFor : OFnExactGateFor.Pure := by
  intro l a ⟨hm, hw⟩ ha
  obtain ⟨t, ht, hl⟩ := szS l hm
  refine ⟨l.length + 1, ?_⟩
  unfold laws_FnExactGateFor.f
  rw [ht, Option.bind_some]
  by_cases h0 : t < 0
  · rw [if_pos h0]
  · have hl := hl (by omega)
    have hm2 : (l.map cv).length ≤ 1048576 := by simpa using hl
    rw [if_neg h0, toProxyS l hl _ (by omega), Option.bind_some, specGate _ a hm2 _ (by simp), Option.bind_some, Option.bind_some, implGate _ a hm2 _ (by simp), Option.bind_some, if_pos rfl, Option.bind_some, eqProxyS _ hm2 _ (by simp), Option.bind_some, if_pos rfl]
end Go.Proofs.Ytkenlkkefmefoaa.Pure
