/- FnProxies: the pure statement: the functions that the law computes answer true. Conditions: none. -/
import Derived.Test.YtkenlkkefmefoaaXFnProxiesx3
import Derived.Test.YtkenlkkefmefoaaPL
namespace Go.Proofs.Ytkenlkkefmefoaa.Pure
open Go Go.RowKit Go.Proofs.Ytkenlkkefmefoaa.XFnProxies Go.Proofs.YtkenlkkefmefoaaW.PrintWords Go.Proofs.YtkenlkkefmefoaaW.PrintLast Go.Proofs.YtkenlkkefmefoaaW.PrintMore Go.Proofs.Ytkenlkkefmefoaa.PL
set_option linter.unusedVariables false
set_option linter.unusedSimpArgs false
theorem rd49 {xs : List S49} {i : Nat} (h : i < xs.length) : rd_T49 xs (i : Int) = xs[i] := getD_nat h
theorem rdset49 {xs : List S49} {v : S49} {i : Nat} (h : i < xs.length) : rd_T49 (xs.set i v) (i : Int) = v := getD_set h
theorem rdrange49 {n : Nat} {g : Nat → S49} {i : Nat} (h : i < n) : rd_T49 ((List.range n).map g) (i : Int) = g i := getD_range h
def Cur (b : List Int) (i : Int) : Prop := 0 ≤ i ∧ i ≤ (b.length : Int)
theorem byte (b : List Int) (i h : Int) (hc : Cur b i) (hl : b.length ≤ 1048576) : ∃ x i' h', spec_l1Byte.f b i h = some (x, i', h') ∧ 0 ≤ x ∧ x ≤ 255 ∧ Cur b i' := by
  obtain ⟨h0, h1⟩ := hc
  unfold spec_l1Byte.f
  by_cases hi : i < (b.length : Int)
  · rw [if_pos hi, if_pos h0, wrap_id (n := i + 1) (by omega) (by omega)]
    exact ⟨_, _, _, rfl, (and_le _ 255 (by omega) (by omega)).1, (and_le _ 255 (by omega) (by omega)).2, by omega, by omega⟩
  · rw [if_neg hi]
    exact ⟨_, _, _, rfl, (and_le _ 255 (by omega) (by omega)).1, (and_le _ 255 (by omega) (by omega)).2, by omega, by omega⟩
theorem below (b : List Int) (i h n : Int) (hc : Cur b i) (hl : b.length ≤ 1048576) : ∃ x i' h', spec_l1Below.f b i h n = some (x, i', h') ∧ 0 ≤ x ∧ (0 < n → x < n) ∧ (n ≤ 0 → x = 0) ∧ Cur b i' := by
  unfold spec_l1Below.f
  by_cases h0 : n ≤ 0
  · rw [if_pos h0]; exact ⟨_, _, _, rfl, by omega, by omega, by omega, hc⟩
  · rw [if_neg h0]
    by_cases h1 : n ≤ 256
    · rw [if_pos h1]
      obtain ⟨x, i1, h1, e1, hx0, hx1, c1⟩ := byte b i h hc hl
      rw [e1, Option.bind_some, if_neg (by omega)]
      have := tmod_range x n hx0 (by omega)
      exact ⟨_, _, _, rfl, this.1, fun _ => this.2, fun h => absurd h h0, c1⟩
    · rw [if_neg h1]
      obtain ⟨x, i1, h1, e1, hx0, hx1, c1⟩ := byte b i h hc hl
      obtain ⟨y, i2, h2, e2, hy0, hy1, c2⟩ := byte b i1 h1 c1 hl
      obtain ⟨z, i3, h3, e3, hz0, hz1, c3⟩ := byte b i2 h2 c2 hl
      rw [e1, Option.bind_some, e2, Option.bind_some, e3, Option.bind_some, if_neg (by omega), wrap_id (n := x * 65536) (by omega) (by omega), wrap_id (n := y * 256) (by omega) (by omega), wrap_id (n := x * 65536 + y * 256) (by omega) (by omega), wrap_id (n := x * 65536 + y * 256 + z) (by omega) (by omega)]
      have := tmod_range (x * 65536 + y * 256 + z) n (by omega) (by omega)
      exact ⟨_, _, _, rfl, this.1, fun _ => this.2, fun h => absurd h h0, c3⟩
theorem new_ (b : List Int) (hl : b.length ≤ 1048576) : ∃ h, Ev (fun k => spec_l1New.f k b) (b, 0, h) := by
  have key : ∀ d i s, i + d = b.length → ∃ h, ∀ k, d + 1 ≤ k → spec_l1New.l0 k b s (i : Int) = some (b, 0, h) := by
    intro d
    induction d with
    | zero =>
      intro i s hi
      refine ⟨s, fun k hk => ?_⟩
      obtain ⟨k, rfl⟩ : ∃ q, k = q + 1 := ⟨k - 1, by omega⟩
      simp only [spec_l1New.l0]
      rw [if_neg (by omega)]
    | succ d ih =>
      intro i s hi
      by_cases h4 : (i : Int) < 4000
      · obtain ⟨h, hh⟩ := ih (i + 1) (Go.bits .and .i64 (wrap64 ((wrap64 ((wrap64 (s * 137)) + (wrap64 (rd b i)))) + 11)) 1073741823) (by omega)
        refine ⟨h, fun k hk => ?_⟩
        obtain ⟨k, rfl⟩ : ∃ q, k = q + 1 := ⟨k - 1, by omega⟩
        simp only [spec_l1New.l0]
        rw [if_pos (by omega), if_pos h4, if_pos (by omega), wrap_succ (by omega)]
        exact hh k (by omega)
      · refine ⟨s, fun k hk => ?_⟩
        obtain ⟨k, rfl⟩ : ∃ q, k = q + 1 := ⟨k - 1, by omega⟩
        simp only [spec_l1New.l0]
        rw [if_pos (by omega), if_neg h4]
  obtain ⟨h, hh⟩ := key b.length 0 (wrap64 (193017 + (b.length : Int))) (by omega)
  exact ⟨h, _, hh⟩
theorem cur0 (b : List Int) : Cur b 0 := ⟨by omega, by omega⟩
def ann (p0 : Int) (out : List S49) (x : S49) : List S49 := if x.f0 = p0 then out else out ++ [⟨x.f0, x.f1⟩]
theorem ann_len (p0 : Int) (xs : List S49) : (xs.foldl (ann p0) []).length ≤ xs.length := by
  have := foldl_len (ann p0) (fun s x => by unfold ann; split <;> simp) xs []
  simpa using this
theorem implAnn (xs : List S49) (p0 p1 : Int) (hl : xs.length ≤ 1048576) : Ev (fun k => impl_AnnounceProxy.f k xs p0 p1) (xs.foldl (ann p0) [] ++ [⟨p0, p1⟩]) := by
  refine loopF 1 xs (ann p0) (fun (s : List S49) => s ++ [⟨p0, p1⟩]) (fun k s i => impl_AnnounceProxy.l0 k s xs (xs.length : Int) i p0 p1) 0 (fun i s => s.length ≤ i) ?_ ?_ [] (by simp)
  · intro i h s k _ hs
    simp only [impl_AnnounceProxy.l0, ann]
    rw [if_pos (by omega), if_pos (by omega), if_pos (by omega), rd49 h, wrap_succ (by omega)]
    split
    · exact ⟨rfl, by omega⟩
    · rw [if_pos (by omega)]; exact ⟨rfl, by simp; omega⟩
  · intro s k _ hs
    simp only [impl_AnnounceProxy.l0]
    rw [if_neg (by omega), if_pos (by omega)]
def wdr (g : Int) (out : List S49) (x : S49) : List S49 := if x.f1 = g then out else out ++ [⟨x.f0, x.f1⟩]
theorem wdr_len (p0 : Int) (xs : List S49) : (xs.foldl (wdr p0) []).length ≤ xs.length := by
  have := foldl_len (wdr p0) (fun s x => by unfold wdr; split <;> simp) xs []
  simpa using this
theorem implWdr (xs : List S49) (g : Int) (hl : xs.length ≤ 1048577) : Ev (fun k => impl_WithdrawGate.f k xs g) (xs.foldl (wdr g) []) := by
  refine loopF 1 xs (wdr g) (fun s => s) (fun k s i => impl_WithdrawGate.l0 k g s xs (xs.length : Int) i) 0 (fun i s => s.length ≤ i) ?_ ?_ [] (by simp)
  · intro i h s k _ hs
    simp only [impl_WithdrawGate.l0, wdr]
    rw [if_pos (by omega), if_pos (by omega), if_pos (by omega), rd49 h, wrap_succ (by omega)]
    split
    · exact ⟨rfl, by omega⟩
    · rw [if_pos (by omega)]; exact ⟨rfl, by simp; omega⟩
  · intro s k _ hs
    simp only [impl_WithdrawGate.l0]
    rw [if_neg (by omega)]

def gate (st : Int) (g : Int) (x : S49) : Int := if x.f0 = st then x.f1 else g
theorem specGate (xs : List S49) (a : Int) (hl : xs.length ≤ 1048578) : Ev (fun k => spec_GateFor.f k xs a) (xs.foldl (gate a) (-1)) := by
  refine loopF 1 xs (gate a) (fun s => s) (fun k s i => spec_GateFor.l0 k xs a s i) 0 (fun _ _ => True) ?_ ?_ (-1) trivial
  · intro i h s k _ _
    refine ⟨?_, trivial⟩
    simp only [spec_GateFor.l0, gate]
    rw [if_pos (by omega), if_pos (by omega), rd49 h, wrap_succ (by omega)]
    split <;> rfl
  · intro s k _ _
    simp only [spec_GateFor.l0]
    rw [if_neg (by omega)]
theorem implGate (xs : List S49) (a : Int) (hl : xs.length ≤ 1048578) : Ev (fun k => impl_GateFor.f k xs a) (xs.foldl (gate a) (-1)) := by
  refine loopF 1 xs (gate a) (fun s => s) (fun k s i => impl_GateFor.l0 k a s xs (xs.length : Int) i) 0 (fun _ _ => True) ?_ ?_ (-1) trivial
  · intro i h s k _ _
    refine ⟨?_, trivial⟩
    simp only [impl_GateFor.l0, gate]
    rw [if_pos (by omega), if_pos (by omega), if_pos (by omega), rd49 h, wrap_succ (by omega)]
    split <;> rfl
  · intro s k _ _
    simp only [impl_GateFor.l0]
    rw [if_neg (by omega)]
theorem ann_filter (p : Int) (xs : List S49) : xs.foldl (ann p) [] = xs.filter (fun x => !decide (x.f0 = p)) := by
  have h := foldl_filter (fun x : S49 => decide (x.f0 = p)) xs []
  simp only [decide_eq_true_eq, List.nil_append] at h
  rw [← h]; rfl
theorem wdr_filter (p : Int) (xs : List S49) : xs.foldl (wdr p) [] = xs.filter (fun x => !decide (x.f1 = p)) := by
  have h := foldl_filter (fun x : S49 => decide (x.f1 = p)) xs []
  simp only [decide_eq_true_eq, List.nil_append] at h
  rw [← h]; rfl
theorem gate_none (st : Int) : ∀ (xs : List S49) (g : Int), (∀ x ∈ xs, x.f0 ≠ st) → xs.foldl (gate st) g = g
  | [], _, _ => rfl
  | x :: xs, g, h => by
    rw [List.foldl_cons, show gate st g x = g from if_neg (h x (by simp))]
    exact gate_none st xs g (fun y hy => h y (by simp [hy]))
theorem gate_filter (st : Int) (q : S49 → Bool) : ∀ (xs : List S49) (g : Int), (∀ x ∈ xs, q x = false → x.f0 ≠ st) → (xs.filter q).foldl (gate st) g = xs.foldl (gate st) g
  | [], _, _ => rfl
  | x :: xs, g, h => by
    have ih := fun g => gate_filter st q xs g (fun y hy => h y (by simp [hy]))
    cases hq : q x with
    | true => rw [List.filter_cons, hq, if_pos rfl, List.foldl_cons, List.foldl_cons, ih]
    | false => rw [List.filter_cons, hq, if_neg (by simp), List.foldl_cons, show gate st g x = g from if_neg (h x (by simp) hq), ih]
/-- The drawn proxies: at most five. -/
theorem l36 (b : List Int) (hl : b.length ≤ 1048576) : ∀ (n : Nat) (out : List S49) (i h : Int), n ≤ 5 → out.length ≤ 5 - n → Cur b i → ∃ out' i' h', (∀ k, n + 1 ≤ k → spec_l36Proxies.l0 k out (n : Int) b i h = some (out', i', h')) ∧ out'.length ≤ 5 ∧ Cur b i'
  | 0, out, i, h, _, ho, hc => ⟨out, i, h, fun k hk => by
      obtain ⟨k, rfl⟩ : ∃ q, k = q + 1 := ⟨k - 1, by omega⟩
      simp only [spec_l36Proxies.l0]
      rw [if_neg (by omega)], by omega, hc⟩
  | n + 1, out, i, h, hn, ho, hc => by
    obtain ⟨x, i1, h1, e1, _, _, _, c1⟩ := below b i h 4 hc hl
    obtain ⟨y, i2, h2, e2, _, _, _, c2⟩ := below b i1 h1 4 c1 hl
    obtain ⟨out', i', h', e, l', c'⟩ := l36 b hl n (out ++ [⟨x, y⟩]) i2 h2 (by omega) (by simp; omega) c2
    refine ⟨out', i', h', fun k hk => ?_, l', c'⟩
    obtain ⟨k, rfl⟩ : ∃ q, k = q + 1 := ⟨k - 1, by omega⟩
    simp only [spec_l36Proxies.l0]
    rw [if_pos (by omega), e1, Option.bind_some, e2, Option.bind_some, if_pos (by omega), wrap_id (by omega) (by omega), show ((n + 1 : Nat) : Int) - 1 = (n : Int) by omega]
    exact e k (by omega)
theorem drawAnn (b : List Int) (hl : b.length ≤ 1048576) : ∃ (l : List S49) (s g : Int), Ev (fun k => spec_DrawAnnounceProxy.f k b) (l, s, g) ∧ l.length ≤ 5 ∧ 0 ≤ s ∧ s < 5 ∧ 0 ≤ g := by
  obtain ⟨h0, K, e0⟩ := new_ b hl
  dsimp only at e0
  obtain ⟨n, i1, h1, e1, n0, n1, _, c1⟩ := below b 0 h0 6 (cur0 b) hl
  obtain ⟨m, rfl⟩ := Int.eq_ofNat_of_zero_le n0
  obtain ⟨l, i2, h2, e2, l2, c2⟩ := l36 b hl m [] i1 h1 (by have := n1 (by decide); omega) (by simp) c1
  obtain ⟨s, i3, h3, e3, s0, s1, _, c3⟩ := below b i2 h2 5 c2 hl
  obtain ⟨g, i4, h4, e4, g0, g1, _, c4⟩ := below b i3 h3 4 c3 hl
  refine ⟨l, s, g, ⟨K + m + 1, fun k hk => ?_⟩, l2, s0, s1 (by decide), g0⟩
  show spec_DrawAnnounceProxy.f k b = _
  unfold spec_DrawAnnounceProxy.f spec_l36Proxies.f
  rw [e0 k (by omega), Option.bind_some, e1, Option.bind_some, e2 k (by omega), Option.bind_some, e3, Option.bind_some, e4, Option.bind_some]
theorem count_one (st g : Int) : ∀ (xs : List S49) (n : Int), (∀ x ∈ xs, x.f0 ≠ st) → (xs ++ [(⟨st, g⟩ : S49)]).foldl (fun (n : Int) (x : S49) => if x.f0 = st then n + 1 else n) n = n + 1
  | [], n, _ => by simp
  | x :: xs, n, h => by
    rw [List.cons_append, List.foldl_cons, if_neg (h x (by simp))]
    exact count_one st g xs n (fun y hy => h y (by simp [hy]))
theorem FnProxies : laws_FnProxies.Pure := by
  intro b hm _ _
  unfold maxLen at hm
  by_cases hbig : (b.length : Int) > 1048576
  · exact ⟨0, by unfold laws_FnProxies.f laws_big.f; rw [Option.bind_some, decide_eq_true hbig, if_pos rfl]⟩
  have hb : laws_big.f b = some false := by unfold laws_big.f; rw [decide_eq_false hbig]
  obtain ⟨l, s, g, ⟨K1, e1⟩, hl, s0, s1, g0⟩ := drawAnn b (by omega)
  have w1 : wrap64 (s + 1) = s + 1 := wrap_id (by omega) (by omega)
  obtain ⟨X, hX⟩ : ∃ X, X = l.filter (fun x => !decide (x.f0 = s)) ++ [⟨s, g⟩] := ⟨_, rfl⟩
  obtain ⟨Y, hY⟩ : ∃ Y, Y = X.filter (fun x => !decide (x.f1 = g)) := ⟨_, rfl⟩
  have hXl : X.length ≤ 6 := by rw [hX]; have := filter_le l (fun x => !decide (x.f0 = s)) hl; simp; omega
  have hYl : Y.length ≤ 6 := by rw [hY]; exact filter_le _ _ hXl
  have noS : ∀ x ∈ l.filter (fun x => !decide (x.f0 = s)), x.f0 ≠ s := by
    intro x hx; simpa using (List.mem_filter.1 hx).2
  have noG : ∀ x ∈ Y, x.f1 ≠ g := by
    intro x hx; rw [hY] at hx; simpa using (List.mem_filter.1 hx).2
  obtain ⟨K2, e2⟩ := implAnn l s g (by omega)
  rw [ann_filter, ← hX] at e2
  obtain ⟨K3, e3⟩ := implWdr X g (by omega)
  rw [wdr_filter, ← hY] at e3
  obtain ⟨K4, e4⟩ := implGate X s (by omega)
  obtain ⟨K5, e5⟩ := implGate X (s + 1) (by omega)
  obtain ⟨K6, e6⟩ := specGate l (s + 1) (by omega)
  obtain ⟨K7, e7⟩ := implGate Y s (by omega)
  have v4 : X.foldl (gate s) (-1) = g := by rw [hX, List.foldl_append]; simp [gate]
  have v5 : X.foldl (gate (s + 1)) (-1) = l.foldl (gate (s + 1)) (-1) := by
    rw [hX, List.foldl_append, gate_filter (s + 1) _ l (-1) (fun x _ hq => by simp at hq; omega)]
    simp only [List.foldl_cons, List.foldl_nil, gate]
    rw [if_neg (by omega)]
  have v7 : Y.foldl (gate s) (-1) = -1 := by
    refine gate_none s Y (-1) (fun x hx he => ?_)
    have hg := noG x hx
    rw [hY, hX] at hx
    have hx := (List.mem_filter.1 hx).1
    rcases List.mem_append.1 hx with h | h
    · exact noS x h he
    · simp at h; rw [h] at hg; exact hg rfl
  rw [v4] at e4; rw [v5] at e5; rw [v7] at e7
  generalize l.foldl (gate (s + 1)) (-1) = w at e5 e6
  have main1 : Ev (fun k => laws_FnProxies.l1 k l X Y 0 0 s g) true := by
    have hc := count_one s g _ 0 noS
    rw [← hX] at hc
    have h := loopF 1 X (fun (n : Int) x => if x.f0 = s then n + 1 else n) (fun n => decide (n = 1)) (fun k n i => laws_FnProxies.l1 k l X Y n i s g) (K4 + K5 + K6 + K7) (fun i n => 0 ≤ n ∧ n ≤ (i : Int)) ?_ ?_ 0 (by omega)
    · rw [hc] at h; exact h
    · intro i h n k _ hn
      simp only [laws_FnProxies.l1]
      rw [if_pos (by omega), if_pos (by omega), rd49 h, wrap_succ (by omega), wrap_id (n := n + 1) (by omega) (by omega)]
      split
      · exact ⟨rfl, by omega⟩
      · exact ⟨rfl, by omega⟩
    · intro n k hk hn
      have a4 := e4 k (by omega)
      have a5 := e5 k (by omega)
      have a6 := e6 k (by omega)
      have a7 := e7 k (by omega)
      dsimp only at a4 a5 a6 a7
      simp only [laws_FnProxies.l1]
      rw [if_neg (by omega)]
      by_cases h1 : n = 1
      · rw [if_pos h1, a4, Option.bind_some, if_pos rfl, w1, a5, Option.bind_some, a6, Option.bind_some, if_pos rfl, a7, Option.bind_some, decide_eq_true h1]; rfl
      · rw [if_neg h1, decide_eq_false h1]
  obtain ⟨K8, e8⟩ := main1
  have main0 : Ev (fun k => laws_FnProxies.l0 k l X Y 0 s g) true := by
    refine run_loop 1 (fun k i => laws_FnProxies.l0 k l X Y (i : Int) s g) Y.length true K8 ?_ ?_
    · intro i h k _
      simp only [laws_FnProxies.l0]
      rw [if_pos (by omega), if_pos (by omega), rd49 h, if_neg (noG _ (List.getElem_mem h)), wrap_succ (by omega)]
    · intro k hk
      simp only [laws_FnProxies.l0]
      rw [if_neg (by omega)]
      exact e8 k hk
  obtain ⟨K9, e9⟩ := main0
  refine ⟨K1 + K2 + K3 + K9, ?_⟩
  have b1 := e1 (K1 + K2 + K3 + K9) (by omega)
  have b2 := e2 (K1 + K2 + K3 + K9) (by omega)
  have b3 := e3 (K1 + K2 + K3 + K9) (by omega)
  have b9 := e9 (K1 + K2 + K3 + K9) (by omega)
  dsimp only at b1 b2 b3 b9
  unfold laws_FnProxies.f
  rw [hb, Option.bind_some, if_neg (by simp), b1, Option.bind_some, b2, Option.bind_some, b3, Option.bind_some]
  exact b9

end Go.Proofs.Ytkenlkkefmefoaa.Pure
