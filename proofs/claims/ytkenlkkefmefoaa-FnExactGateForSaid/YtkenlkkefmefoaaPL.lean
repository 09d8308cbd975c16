/- Plain words for the pure statements: loops over an index as folds, marks. Conditions: none. -/
import Derived.Test.YtkenlkkefmefoaaWWords
import Derived.Test.YtkenlkkefmefoaaWLast
namespace Go.Proofs.Ytkenlkkefmefoaa.PL
open Go Go.RowKit Go.Proofs.YtkenlkkefmefoaaW.PrintWords

theorem wrap_id {n : Int} (h0 : -9223372036854775808 ≤ n) (h1 : n ≤ 9223372036854775807) : wrap64 n = n := by unfold wrap64; omega
theorem wrap_succ {i : Nat} (h : i < 4611686018427387904) : wrap64 ((i : Int) + 1) = ((i + 1 : Nat) : Int) := by unfold wrap64; omega
theorem wrap_le (n : Int) : -9223372036854775808 ≤ wrap64 n ∧ wrap64 n ≤ 9223372036854775807 := by unfold wrap64; omega

theorem getD_nat {α : Type} {xs : List α} {z : α} {i : Nat} (h : i < xs.length) : xs.getD ((i : Int).toNat) z = xs[i] := by
  simp [List.getD, h]

/-- A loop that goes through states told by their place. -/
theorem run_loop {ρ : Type} (L : Nat → Nat → Option ρ) (m : Nat) (r : ρ) (K : Nat) (step : ∀ i, i < m → ∀ k, K ≤ k → L (k + 1) i = L k (i + 1)) (stop : ∀ k, K ≤ k → L (k + 1) m = some r) :
    ∀ k, K + m < k → L k 0 = some r := by
  have key : ∀ d i, i + d = m → ∀ k, K + d < k → L k i = some r := by
    intro d
    induction d with
    | zero =>
      intro i hi k hk
      obtain ⟨k, rfl⟩ : ∃ q, k = q + 1 := ⟨k - 1, by omega⟩
      obtain rfl : i = m := by omega
      exact stop k (by omega)
    | succ d ih =>
      intro i hi k hk
      obtain ⟨k, rfl⟩ : ∃ q, k = q + 1 := ⟨k - 1, by omega⟩
      rw [step i (by omega) k (by omega)]
      exact ih (i + 1) (by omega) k (by omega)
  intro k hk
  exact key m 0 (by omega) k (by omega)

/-- A fold with an exit; i: the element's place. -/
def foldE {α σ ρ : Type} (step : Nat → σ → α → σ ⊕ ρ) (fin : σ → ρ) : List α → Nat → σ → ρ
  | [], _, s => fin s
  | x :: xs, i, s => match step i s x with
    | .inl s' => foldE step fin xs (i + 1) s'
    | .inr r => r

theorem loopE {α σ ρ : Type} (xs : List α) (step : Nat → σ → α → σ ⊕ ρ) (fin : σ → ρ) (L : Nat → σ → Int → Option ρ) (K : Nat) (Inv : Nat → σ → Prop)
    (hyes : ∀ i (h : i < xs.length) s s' k, K ≤ k → Inv i s → step i s xs[i] = .inl s' → L (k + 1) s (i : Int) = L k s' ((i + 1 : Nat) : Int) ∧ Inv (i + 1) s')
    (hno : ∀ i (h : i < xs.length) s r k, K ≤ k → Inv i s → step i s xs[i] = .inr r → L (k + 1) s (i : Int) = some r)
    (hstop : ∀ s k, K ≤ k → Inv xs.length s → L (k + 1) s (xs.length : Int) = some (fin s)) (s0 : σ) (h0 : Inv 0 s0) :
    ∀ k, K + xs.length < k → L k s0 0 = some (foldE step fin xs 0 s0) := by
  have key : ∀ d i s, i + d = xs.length → Inv i s → ∀ k, K + d < k → L k s (i : Int) = some (foldE step fin (xs.drop i) i s) := by
    intro d
    induction d with
    | zero =>
      intro i s hi hI k hk
      obtain ⟨k, rfl⟩ : ∃ q, k = q + 1 := ⟨k - 1, by omega⟩
      obtain rfl : i = xs.length := by omega
      rw [hstop s k (by omega) hI, List.drop_of_length_le (Nat.le_refl _)]; rfl
    | succ d ih =>
      intro i s hi hI k hk
      obtain ⟨k, rfl⟩ : ∃ q, k = q + 1 := ⟨k - 1, by omega⟩
      have hlt : i < xs.length := by omega
      rw [List.drop_eq_getElem_cons hlt]
      unfold foldE
      cases hs : step i s xs[i] with
      | inl s' =>
        obtain ⟨h1, h2⟩ := hyes i hlt s s' k (by omega) hI hs
        rw [h1, ih (i + 1) s' (by omega) h2 k (by omega)]
      | inr r => rw [hno i hlt s r k (by omega) hI hs]
  intro k hk
  have := key xs.length 0 s0 (by omega) h0 k hk
  simpa using this

/-- .. that never exits. -/
theorem loopF {α σ ρ : Type} (xs : List α) (step : σ → α → σ) (fin : σ → ρ) (L : Nat → σ → Int → Option ρ) (K : Nat) (Inv : Nat → σ → Prop)
    (hstep : ∀ i (h : i < xs.length) s k, K ≤ k → Inv i s → L (k + 1) s (i : Int) = L k (step s xs[i]) ((i + 1 : Nat) : Int) ∧ Inv (i + 1) (step s xs[i]))
    (hstop : ∀ s k, K ≤ k → Inv xs.length s → L (k + 1) s (xs.length : Int) = some (fin s)) (s0 : σ) (h0 : Inv 0 s0) :
    ∀ k, K + xs.length < k → L k s0 0 = some (fin (xs.foldl step s0)) := by
  have key : ∀ d i s, i + d = xs.length → Inv i s → ∀ k, K + d < k → L k s (i : Int) = some (fin ((xs.drop i).foldl step s)) := by
    intro d
    induction d with
    | zero =>
      intro i s hi hI k hk
      obtain ⟨k, rfl⟩ : ∃ q, k = q + 1 := ⟨k - 1, by omega⟩
      obtain rfl : i = xs.length := by omega
      rw [hstop s k (by omega) hI, List.drop_of_length_le (Nat.le_refl _)]; rfl
    | succ d ih =>
      intro i s hi hI k hk
      obtain ⟨k, rfl⟩ : ∃ q, k = q + 1 := ⟨k - 1, by omega⟩
      have hlt : i < xs.length := by omega
      obtain ⟨h1, h2⟩ := hstep i hlt s k (by omega) hI
      rw [List.drop_eq_getElem_cons hlt, List.foldl_cons, h1, ih (i + 1) _ (by omega) h2 k (by omega)]
  intro k hk
  have := key xs.length 0 s0 (by omega) h0 k hk
  simpa using this

/-- A row made by a store at each place. -/
theorem loopMap {α β : Type} (xs : List α) (c : α → β) (z : β) (L : Nat → List β → Int → Option (List β)) (K : Nat)
    (hstep : ∀ i (h : i < xs.length) ys k, K ≤ k → ys.length = xs.length → L (k + 1) ys (i : Int) = L k (ys.set i (c xs[i])) ((i + 1 : Nat) : Int))
    (hstop : ∀ ys k, K ≤ k → L (k + 1) ys (xs.length : Int) = some ys) :
    ∀ k, K + xs.length < k → L k (List.replicate xs.length z) 0 = some (xs.map c) := by
  have := run_loop (fun k i => L k ((xs.take i).map c ++ List.replicate (xs.length - i) z) (i : Int)) xs.length (xs.map c) K ?_ ?_
  · intro k hk
    have := this k hk
    simpa using this
  · intro i hi k hk
    show L (k + 1) ((xs.take i).map c ++ List.replicate (xs.length - i) z) (i : Int) = L k ((xs.take (i + 1)).map c ++ List.replicate (xs.length - (i + 1)) z) ((i + 1 : Nat) : Int)
    rw [hstep i hi _ k hk (by simp; omega)]
    congr 1
    have e : xs.length - i = (xs.length - (i + 1)) + 1 := by omega
    rw [e, List.replicate_succ, List.set_append_right _ _ (by simp; omega)]
    have h2 : i - (List.map c (List.take i xs)).length = 0 := by simp; omega
    rw [h2, List.set_cons_zero, List.take_succ_eq_append_getElem hi, List.map_append, List.append_assoc]
    rfl
  · intro k hk
    show L (k + 1) ((xs.take xs.length).map c ++ List.replicate (xs.length - xs.length) z) (xs.length : Int) = _
    rw [hstop _ k hk]
    simp
/-- All places agree. -/
theorem loopAll (n : Nat) (L : Nat → Int → Option Bool) (K : Nat) (p : Nat → Bool)
    (hyes : ∀ i, i < n → ∀ k, K ≤ k → L (k + 1) (i : Int) = if p i = true then L k ((i + 1 : Nat) : Int) else some false)
    (hstop : ∀ k, K ≤ k → L (k + 1) (n : Int) = some true) :
    ∀ k, K + n < k → L k 0 = some ((List.range n).all p) := by
  have key : ∀ d i, i + d = n → ∀ k, K + d < k → L k (i : Int) = some ((List.range' i d).all p) := by
    intro d
    induction d with
    | zero =>
      intro i hi k hk
      obtain ⟨k, rfl⟩ : ∃ q, k = q + 1 := ⟨k - 1, by omega⟩
      obtain rfl : i = n := by omega
      rw [hstop k (by omega)]
      rfl
    | succ d ih =>
      intro i hi k hk
      obtain ⟨k, rfl⟩ : ∃ q, k = q + 1 := ⟨k - 1, by omega⟩
      rw [hyes i (by omega) k (by omega), List.range'_succ, List.all_cons]
      cases hp : p i with
      | true => rw [if_pos rfl, ih (i + 1) (by omega) k (by omega)]; rfl
      | false => rw [if_neg (by simp)]; rfl
  intro k hk
  rw [List.range_eq_range']
  exact key n 0 (by omega) k hk
theorem all_range {n : Nat} {p : Nat → Bool} : (List.range n).all p = true ↔ ∀ i, i < n → p i = true := by
  simp [List.all_eq_true]
/-- Two rows are alike if they are alike at each place. -/
theorem eq_of_all {α : Type} {xs ys : List α} (hl : xs.length = ys.length) (h : ∀ i (h1 : i < xs.length) (h2 : i < ys.length), xs[i] = ys[i]) : xs = ys := List.ext_getElem hl h
end Go.Proofs.Ytkenlkkefmefoaa.PL
