/- Plain words for the pure statements: loops over an index as folds; what eventually answers. Conditions: none. -/
import Derived.Test.YtlkofdedkfmaeaaWWords
import Derived.Test.YtlkofdedkfmaeaaWLast
import Derived.Laws.BitsLemmas
import Derived.Laws.Strings
namespace Go.Proofs.Ytlkofdedkfmaeaa.PL
open Go Go.RowKit Go.Proofs.YtlkofdedkfmaeaaW.PrintWords

theorem wrap_id {n : Int} (h0 : -9223372036854775808 ≤ n) (h1 : n ≤ 9223372036854775807) : wrap64 n = n := by unfold wrap64; omega
theorem wrap_succ {i : Nat} (h : i < 4611686018427387904) : wrap64 ((i : Int) + 1) = ((i + 1 : Nat) : Int) := by unfold wrap64; omega
theorem wrap_le (n : Int) : -9223372036854775808 ≤ wrap64 n ∧ wrap64 n ≤ 9223372036854775807 := by unfold wrap64; omega
theorem getD_nat {α : Type} {xs : List α} {z : α} {i : Nat} (h : i < xs.length) : xs.getD ((i : Int).toNat) z = xs[i] := by
  simp [List.getD, h]
theorem rd_nat {xs : List Int} {i : Nat} (h : i < xs.length) : rd xs (i : Int) = xs[i] := getD_nat h
theorem ev_all {α β : Type} (xs : List α) (g : α → Nat → Option β) (r : α → β) (h : ∀ x ∈ xs, Ev (g x) (r x)) : ∃ K, ∀ x ∈ xs, ∀ k, K ≤ k → g x k = some (r x) := by
  induction xs with
  | nil => exact ⟨0, fun x hx => by simp at hx⟩
  | cons x xs ih =>
    obtain ⟨K, hK⟩ := ih (fun y hy => h y (by simp [hy]))
    obtain ⟨K', hK'⟩ := h x (by simp)
    refine ⟨K + K', fun y hy k hk => ?_⟩
    rcases List.mem_cons.1 hy with rfl | hy
    · exact hK' k (by omega)
    · exact hK y hy k (by omega)

/-- A loop that goes through states told by their place; c rounds a place. -/
theorem run_loop {ρ : Type} (c : Nat) (L : Nat → Nat → Option ρ) (m : Nat) (r : ρ) (K : Nat) (step : ∀ i, i < m → ∀ k, K ≤ k → L (k + c) i = L k (i + 1)) (stop : ∀ k, K ≤ k → L (k + c) m = some r) :
    Ev (fun k => L k 0) r := by
  have key : ∀ d i, i + d = m → ∀ k, K + c * d + c ≤ k → L k i = some r := by
    intro d
    induction d with
    | zero =>
      intro i hi k hk
      obtain ⟨k, rfl⟩ : ∃ q, k = q + c := ⟨k - c, by omega⟩
      obtain rfl : i = m := by omega
      exact stop k (by omega)
    | succ d ih =>
      intro i hi k hk
      rw [Nat.mul_succ] at hk
      obtain ⟨k, rfl⟩ : ∃ q, k = q + c := ⟨k - c, by omega⟩
      rw [step i (by omega) k (by omega)]
      exact ih (i + 1) (by omega) k (by omega)
  exact ⟨_, fun k hk => key m 0 (by omega) k hk⟩

/-- A fold with an exit; i: the element's place. -/
def foldE {α σ ρ : Type} (step : Nat → σ → α → σ ⊕ ρ) (fin : σ → ρ) : List α → Nat → σ → ρ
  | [], _, s => fin s
  | x :: xs, i, s => match step i s x with
    | .inl s' => foldE step fin xs (i + 1) s'
    | .inr r => r

theorem loopE {α σ ρ : Type} (c : Nat) (xs : List α) (step : Nat → σ → α → σ ⊕ ρ) (fin : σ → ρ) (L : Nat → σ → Int → Option ρ) (K : Nat) (Inv : Nat → σ → Prop)
    (hyes : ∀ i (h : i < xs.length) s s' k, K ≤ k → Inv i s → step i s xs[i] = .inl s' → L (k + c) s (i : Int) = L k s' ((i + 1 : Nat) : Int) ∧ Inv (i + 1) s')
    (hno : ∀ i (h : i < xs.length) s r k, K ≤ k → Inv i s → step i s xs[i] = .inr r → L (k + c) s (i : Int) = some r)
    (hstop : ∀ s k, K ≤ k → Inv xs.length s → L (k + c) s (xs.length : Int) = some (fin s)) (s0 : σ) (h0 : Inv 0 s0) :
    Ev (fun k => L k s0 0) (foldE step fin xs 0 s0) := by
  have key : ∀ d i s, i + d = xs.length → Inv i s → ∀ k, K + c * d + c ≤ k → L k s (i : Int) = some (foldE step fin (xs.drop i) i s) := by
    intro d
    induction d with
    | zero =>
      intro i s hi hI k hk
      obtain ⟨k, rfl⟩ : ∃ q, k = q + c := ⟨k - c, by omega⟩
      obtain rfl : i = xs.length := by omega
      rw [hstop s k (by omega) hI, List.drop_of_length_le (Nat.le_refl _)]; rfl
    | succ d ih =>
      intro i s hi hI k hk
      rw [Nat.mul_succ] at hk
      obtain ⟨k, rfl⟩ : ∃ q, k = q + c := ⟨k - c, by omega⟩
      have hlt : i < xs.length := by omega
      rw [List.drop_eq_getElem_cons hlt]
      unfold foldE
      cases hs : step i s xs[i] with
      | inl s' =>
        obtain ⟨h1, h2⟩ := hyes i hlt s s' k (by omega) hI hs
        rw [h1, ih (i + 1) s' (by omega) h2 k (by omega)]
      | inr r => rw [hno i hlt s r k (by omega) hI hs]
  refine ⟨K + c * xs.length + c, fun k hk => ?_⟩
  have := key xs.length 0 s0 (by omega) h0 k hk
  simpa using this

theorem foldE_inv {α σ ρ : Type} (P : ρ → Prop) (step : Nat → σ → α → σ ⊕ ρ) (fin : σ → ρ) (hf : ∀ s, P (fin s)) : ∀ (xs : List α) (i : Nat) (s : σ), (∀ j s x r, i ≤ j → j < i + xs.length → step j s x = .inr r → P r) → P (foldE step fin xs i s)
  | [], _, s, _ => hf s
  | x :: xs, i, s, h => by
    unfold foldE
    cases hs : step i s x with
    | inl s' => exact foldE_inv P step fin hf xs (i + 1) s' (fun j s x r h1 h2 => h j s x r (by omega) (by simp only [List.length_cons]; omega))
    | inr r => exact h i s x r (Nat.le_refl _) (by simp only [List.length_cons]; omega) hs
/-- .. that never exits. -/
theorem loopF {α σ ρ : Type} (c : Nat) (xs : List α) (step : σ → α → σ) (fin : σ → ρ) (L : Nat → σ → Int → Option ρ) (K : Nat) (Inv : Nat → σ → Prop)
    (hstep : ∀ i (h : i < xs.length) s k, K ≤ k → Inv i s → L (k + c) s (i : Int) = L k (step s xs[i]) ((i + 1 : Nat) : Int) ∧ Inv (i + 1) (step s xs[i]))
    (hstop : ∀ s k, K ≤ k → Inv xs.length s → L (k + c) s (xs.length : Int) = some (fin s)) (s0 : σ) (h0 : Inv 0 s0) :
    Ev (fun k => L k s0 0) (fin (xs.foldl step s0)) := by
  have key : ∀ d i s, i + d = xs.length → Inv i s → ∀ k, K + c * d + c ≤ k → L k s (i : Int) = some (fin ((xs.drop i).foldl step s)) := by
    intro d
    induction d with
    | zero =>
      intro i s hi hI k hk
      obtain ⟨k, rfl⟩ : ∃ q, k = q + c := ⟨k - c, by omega⟩
      obtain rfl : i = xs.length := by omega
      rw [hstop s k (by omega) hI, List.drop_of_length_le (Nat.le_refl _)]; rfl
    | succ d ih =>
      intro i s hi hI k hk
      rw [Nat.mul_succ] at hk
      obtain ⟨k, rfl⟩ : ∃ q, k = q + c := ⟨k - c, by omega⟩
      have hlt : i < xs.length := by omega
      obtain ⟨h1, h2⟩ := hstep i hlt s k (by omega) hI
      rw [List.drop_eq_getElem_cons hlt, List.foldl_cons, h1, ih (i + 1) _ (by omega) h2 k (by omega)]
  refine ⟨K + c * xs.length + c, fun k hk => ?_⟩
  have := key xs.length 0 s0 (by omega) h0 k hk
  simpa using this

/-- A row made by a store at each place. -/
theorem loopMap {α β : Type} (xs : List α) (f : α → β) (z : β) (L : Nat → List β → Int → Option (List β)) (K : Nat)
    (hstep : ∀ i (h : i < xs.length) ys k, K ≤ k → ys.length = xs.length → L (k + 1) ys (i : Int) = L k (ys.set i (f xs[i])) ((i + 1 : Nat) : Int))
    (hstop : ∀ ys k, K ≤ k → L (k + 1) ys (xs.length : Int) = some ys) :
    Ev (fun k => L k (List.replicate xs.length z) 0) (xs.map f) := by
  have := run_loop 1 (fun k i => L k ((xs.take i).map f ++ List.replicate (xs.length - i) z) (i : Int)) xs.length (xs.map f) K ?_ ?_
  · obtain ⟨K', h⟩ := this
    refine ⟨K', fun k hk => ?_⟩
    have := h k hk
    simpa using this
  · intro i hi k hk
    show L (k + 1) ((xs.take i).map f ++ List.replicate (xs.length - i) z) (i : Int) = L k ((xs.take (i + 1)).map f ++ List.replicate (xs.length - (i + 1)) z) ((i + 1 : Nat) : Int)
    rw [hstep i hi _ k hk (by simp; omega)]
    congr 1
    have e : xs.length - i = (xs.length - (i + 1)) + 1 := by omega
    rw [e, List.replicate_succ, List.set_append_right _ _ (by simp; omega)]
    have h2 : i - (List.map f (List.take i xs)).length = 0 := by simp; omega
    rw [h2, List.set_cons_zero, List.take_succ_eq_append_getElem hi, List.map_append, List.append_assoc]
    rfl
  · intro k hk
    show L (k + 1) ((xs.take xs.length).map f ++ List.replicate (xs.length - xs.length) z) (xs.length : Int) = _
    rw [hstop _ k hk]
    simp
/-- Each place is written anew, by its number; m: a counter. -/
theorem loopFill {α ρ : Type} (xs : List α) (g : Nat → α) (m : Nat → Int) (fin : List α → ρ) (L : Nat → List α → Int → Int → Option ρ) (K : Nat)
    (hstep : ∀ i, i < xs.length → ∀ ys k, K ≤ k → ys.length = xs.length → L (k + 1) ys (m i) (i : Int) = L k (ys.set i (g i)) (m (i + 1)) ((i + 1 : Nat) : Int))
    (hstop : ∀ ys k, K ≤ k → ys.length = xs.length → L (k + 1) ys (m xs.length) (xs.length : Int) = some (fin ys)) :
    Ev (fun k => L k xs (m 0) 0) (fin ((List.range xs.length).map g)) := by
  have := run_loop 1 (fun k i => L k ((List.range i).map g ++ xs.drop i) (m i) (i : Int)) xs.length (fin ((List.range xs.length).map g)) K ?_ ?_
  · obtain ⟨K', h⟩ := this
    refine ⟨K', fun k hk => ?_⟩
    have := h k hk
    simpa using this
  · intro i hi k hk
    show L (k + 1) ((List.range i).map g ++ xs.drop i) (m i) (i : Int) = L k ((List.range (i + 1)).map g ++ xs.drop (i + 1)) (m (i + 1)) ((i + 1 : Nat) : Int)
    rw [hstep i hi _ k hk (by simp; omega)]
    congr 1
    rw [List.drop_eq_getElem_cons hi, List.set_append_right _ _ (by simp)]
    have h2 : i - (List.map g (List.range i)).length = 0 := by simp
    rw [h2, List.set_cons_zero, List.range_succ, List.map_append, List.append_assoc]
    rfl
  · intro k hk
    show L (k + 1) ((List.range xs.length).map g ++ xs.drop xs.length) (m xs.length) (xs.length : Int) = _
    rw [hstop _ k hk (by simp)]
    simp
theorem getD_set {α : Type} {xs : List α} {z v : α} {i : Nat} (h : i < xs.length) : (xs.set i v).getD ((i : Int).toNat) z = v := by
  simp [List.getD, h]
theorem getD_range {α : Type} {n : Nat} {g : Nat → α} {z : α} {i : Nat} (h : i < n) : ((List.range n).map g).getD ((i : Int).toNat) z = g i := by
  simp [List.getD, h]
/-- A test at all places. -/
theorem loopAll {ρ : Type} (c : Nat) (n : Nat) (L : Nat → Int → Option ρ) (K : Nat) (p : Nat → Bool) (good bad : ρ)
    (hyes : ∀ i, i < n → ∀ k, K ≤ k → p i = true → L (k + c) (i : Int) = L k ((i + 1 : Nat) : Int))
    (hno : ∀ i, i < n → ∀ k, K ≤ k → p i = false → L (k + c) (i : Int) = some bad)
    (hstop : ∀ k, K ≤ k → L (k + c) (n : Int) = some good) :
    Ev (fun k => L k 0) (if (List.range n).all p then good else bad) := by
  have key : ∀ d i, i + d = n → ∀ k, K + c * d + c ≤ k → L k (i : Int) = some (if (List.range' i d).all p then good else bad) := by
    intro d
    induction d with
    | zero =>
      intro i hi k hk
      obtain ⟨k, rfl⟩ : ∃ q, k = q + c := ⟨k - c, by omega⟩
      obtain rfl : i = n := by omega
      rw [hstop k (by omega)]
      rfl
    | succ d ih =>
      intro i hi k hk
      rw [Nat.mul_succ] at hk
      obtain ⟨k, rfl⟩ : ∃ q, k = q + c := ⟨k - c, by omega⟩
      rw [List.range'_succ, List.all_cons]
      cases hp : p i with
      | true => rw [hyes i (by omega) k (by omega) hp, ih (i + 1) (by omega) k (by omega), Bool.true_and]
      | false => rw [hno i (by omega) k (by omega) hp, Bool.false_and]; rfl
  rw [List.range_eq_range']
  exact ⟨_, fun k hk => key n 0 (by omega) k hk⟩
theorem loopAll' {ρ : Type} (c : Nat) (n : Nat) (L : Nat → Int → Option ρ) (K : Nat) (p : Nat → Bool) (good bad : ρ)
    (h : ∀ i, i < n → ∀ k, K ≤ k → L (k + c) (i : Int) = if p i = true then L k ((i + 1 : Nat) : Int) else some bad)
    (hstop : ∀ k, K ≤ k → L (k + c) (n : Int) = some good) :
    Ev (fun k => L k 0) (if (List.range n).all p then good else bad) :=
  loopAll c n L K p good bad (fun i hi k hk hp => by rw [h i hi k hk, if_pos hp]) (fun i hi k hk hp => by rw [h i hi k hk, if_neg (by rw [hp]; simp)]) hstop
theorem all_range {n : Nat} {p : Nat → Bool} : (List.range n).all p = true ↔ ∀ i, i < n → p i = true := by
  simp [List.all_eq_true]
theorem ev_of {α : Type} {g : Nat → Option α} {r : α} (K : Nat) (h : ∀ k, K ≤ k → g k = some r) : Ev g r := ⟨K, h⟩
theorem ev_some {α : Type} {g : Nat → Option α} {r : α} (h : ∀ k, g k = some r) : Ev g r := ⟨0, fun k _ => h k⟩
theorem ev_bind {α β : Type} {g : Nat → Option α} {f : Nat → α → Option β} {a : α} {r : β} (h : Ev g a) (h' : Ev (fun k => f k a) r) : Ev (fun k => (g k).bind (f k)) r := by
  obtain ⟨K, h⟩ := h
  obtain ⟨K', h'⟩ := h'
  exact ⟨K + K', fun k hk => by
    show (g k).bind (f k) = some r
    rw [h k (by omega), Option.bind_some]; exact h' k (by omega)⟩
theorem ev_congr {α : Type} {g g' : Nat → Option α} {r : α} (h : ∀ k, g k = g' k) (h' : Ev g' r) : Ev g r := by
  obtain ⟨K, h'⟩ := h'
  exact ⟨K, fun k hk => by rw [h k]; exact h' k hk⟩
theorem ev_ex {α : Type} {g : Nat → Option α} {r : α} (h : Ev g r) : ∃ k, g k = some r := by obtain ⟨K, h⟩ := h; exact ⟨K, h K (Nat.le_refl _)⟩
theorem foldl_len {α β : Type} (step : List β → α → List β) (h : ∀ s x, (step s x).length ≤ s.length + 1) : ∀ (xs : List α) (s : List β), (xs.foldl step s).length ≤ s.length + xs.length
  | [], s => by simp
  | x :: xs, s => by
    have h1 := foldl_len step h xs (step s x)
    have h2 := h s x
    simp only [List.foldl_cons, List.length_cons]
    omega
/-- A row of those that are kept. -/
theorem loopFilter {α ρ : Type} (c : Nat) (xs : List α) (keep : α → Bool) (fin : List α → ρ) (L : Nat → List α → Int → Option ρ) (K : Nat)
    (hyes : ∀ i (h : i < xs.length) out k, K ≤ k → out.length ≤ i → keep xs[i] = true → L (k + c) out (i : Int) = L k (out ++ [xs[i]]) ((i + 1 : Nat) : Int))
    (hno : ∀ i (h : i < xs.length) out k, K ≤ k → keep xs[i] = false → L (k + c) out (i : Int) = L k out ((i + 1 : Nat) : Int))
    (hstop : ∀ out k, K ≤ k → out.length ≤ xs.length → L (k + c) out (xs.length : Int) = some (fin out)) : Ev (fun k => L k [] 0) (fin (xs.filter keep)) := by
  have := run_loop c (fun k i => L k ((xs.take i).filter keep) (i : Int)) xs.length (fin (xs.filter keep)) K ?_ ?_
  · simpa using this
  · intro i hi k hk
    show L (k + c) ((xs.take i).filter keep) (i : Int) = L k ((xs.take (i + 1)).filter keep) ((i + 1 : Nat) : Int)
    have hle : ((xs.take i).filter keep).length ≤ i := Nat.le_trans (List.length_filter_le _ _) (by simp; omega)
    rw [List.take_succ_eq_append_getElem hi, List.filter_append]
    cases hp : keep xs[i] with
    | true => rw [hyes i hi _ k hk hle hp]; simp [hp]
    | false => rw [hno i hi _ k hk hp]; simp [hp]
  · intro k hk
    show L (k + c) ((xs.take xs.length).filter keep) (xs.length : Int) = _
    rw [List.take_length]
    exact hstop _ k hk (List.length_filter_le _ _)
/-- A row of what each element gives, by appending. -/
theorem loopPush {α β ρ : Type} (c : Nat) (xs : List α) (g : α → β) (fin : List β → ρ) (L : Nat → List β → Int → Option ρ) (K : Nat)
    (hstep : ∀ i (h : i < xs.length) out k, K ≤ k → out.length = i → L (k + c) out (i : Int) = L k (out ++ [g xs[i]]) ((i + 1 : Nat) : Int))
    (hstop : ∀ out k, K ≤ k → out.length = xs.length → L (k + c) out (xs.length : Int) = some (fin out)) : Ev (fun k => L k [] 0) (fin (xs.map g)) := by
  have := run_loop c (fun k i => L k ((xs.take i).map g) (i : Int)) xs.length (fin (xs.map g)) K ?_ ?_
  · simpa using this
  · intro i hi k hk
    show L (k + c) ((xs.take i).map g) (i : Int) = L k ((xs.take (i + 1)).map g) ((i + 1 : Nat) : Int)
    rw [hstep i hi _ k hk (by simp; omega), List.take_succ_eq_append_getElem hi, List.map_append]
    rfl
  · intro k hk
    show L (k + c) ((xs.take xs.length).map g) (xs.length : Int) = _
    rw [List.take_length]
    exact hstop _ k hk (by simp)
theorem filter_le {α : Type} (xs : List α) (keep : α → Bool) {n : Nat} (h : xs.length ≤ n) : (xs.filter keep).length ≤ n := Nat.le_trans (List.length_filter_le _ _) h
theorem foldl_filter {α : Type} (c : α → Bool) (xs : List α) : ∀ s : List α, xs.foldl (fun out x => if c x = true then out else out ++ [x]) s = s ++ xs.filter (fun x => !c x) := by
  induction xs with
  | nil => intro s; simp
  | cons x xs ih =>
    intro s
    rw [List.foldl_cons, ih]
    cases h : c x <;> simp [h]
/-- A fold's steps may be replaced where they are alike. -/
theorem foldl_inv {α σ : Type} (P : σ → Prop) (step : σ → α → σ) : ∀ (xs : List α) (s : σ), P s → (∀ s x, x ∈ xs → P s → P (step s x)) → P (xs.foldl step s)
  | [], _, h, _ => h
  | x :: xs, s, h, hs => foldl_inv P step xs (step s x) (hs s x (by simp) h) (fun s y hy hp => hs s y (by simp [hy]) hp)
theorem and_le (x m : Int) (h0 : 0 ≤ m) (h1 : m < 4611686018427387904) : 0 ≤ bits .and .i64 x m ∧ bits .and .i64 x m ≤ m := by
  obtain ⟨b, rfl⟩ := Int.eq_ofNat_of_zero_le h0
  have hb : b % 2 ^ 64 = b := Nat.mod_eq_of_lt (by omega)
  have h : (BitVec.ofInt 64 x &&& BitVec.ofInt 64 (b : Int)).toNat ≤ b := by
    rw [BitVec.toNat_and, BitVec.ofInt_natCast, BitVec.toNat_ofNat, hb]; exact Nat.and_le_right
  have e : bits .and .i64 x (b : Int) = IntKind.i64.wrap ((BitVec.ofInt 64 x &&& BitVec.ofInt 64 (b : Int)).toNat : Int) := rfl
  rw [e, IntKind.wrap_i64]
  omega
theorem tmodM (a m : Int) (hm : 0 < m) : (if Int.tmod a m < 0 then Int.tmod a m + m else Int.tmod a m) = a % m := by
  by_cases h0 : 0 ≤ a
  · rw [Int.tmod_eq_emod_of_nonneg h0, if_neg (by have := Int.emod_nonneg a (show m ≠ 0 by omega); omega)]
  · have h1 := Int.tmod_eq_emod (a := a) (b := m)
    have h2 := Int.emod_nonneg a (show m ≠ 0 by omega)
    have h3 := Int.emod_lt_of_pos a hm
    split at h1
    · rename_i hd
      rcases hd with hd | hd
      · omega
      · have : a % m = 0 := Int.emod_eq_zero_of_dvd hd
        rw [if_neg (by simp at h1; omega)]; simpa using h1
    · have hn : (m.natAbs : Int) = m := by omega
      rw [hn] at h1
      rw [if_pos (by omega)]; omega
theorem tmod_range (x n : Int) (hx : 0 ≤ x) (hn : 0 < n) : 0 ≤ Int.tmod x n ∧ Int.tmod x n < n := by
  rw [Int.tmod_eq_emod_of_nonneg hx]
  exact ⟨Int.emod_nonneg _ (by omega), Int.emod_lt_of_pos _ hn⟩
end Go.Proofs.Ytlkofdedkfmaeaa.PL
