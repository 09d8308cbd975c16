/- FnTransitionKeys: the pure statement: the functions that the law computes answer true. Conditions: none. -/
import Derived.Test.YtkenlkkefmefoaaXFnTransitionKeysx2
import Derived.Test.YtkenlkkefmefoaaPL
namespace Go.Proofs.Ytkenlkkefmefoaa.Pure
open Go Go.RowKit Go.Proofs.Ytkenlkkefmefoaa.XFnTransitionKeys Go.Proofs.YtkenlkkefmefoaaW.PrintWords Go.Proofs.YtkenlkkefmefoaaW.PrintLast Go.Proofs.YtkenlkkefmefoaaW.PrintMore Go.Proofs.Ytkenlkkefmefoaa.PL
set_option linter.unusedVariables false
set_option linter.unusedSimpArgs false
theorem implIn (a b c : Int) : impl_InRange.f a b c = some (decide (b ≤ a ∧ a ≤ c)) := by
  unfold impl_InRange.f
  by_cases h : b ≤ a <;> simp [h]

theorem implMod (a : Int) : impl_Mod.f a 2147483647 = some (a % 2147483647) := by
  unfold impl_Mod.f
  rw [implIn, Option.bind_some, if_pos (by decide), if_neg (by decide)]
  have h := tmodM a 2147483647 (by decide)
  have h1 := Int.lt_tmod_of_pos a (show (0 : Int) < 2147483647 by decide)
  by_cases h0 : Int.tmod a 2147483647 < 0
  · rw [if_pos h0] at h ⊢; rw [wrap_id (by omega) (by omega), h]
  · rw [if_neg h0] at h ⊢; rw [h]
/-- One step of the hash. -/
def hst (acc v : Int) : Int := (acc * 1000003 + v % 2147483647 + 13) % 2147483647
theorem hst_range (a v : Int) : 0 ≤ hst a v ∧ hst a v < 2147483647 := by unfold hst; omega
theorem implHash (xs : List Int) (hl : xs.length ≤ 4194304) : Ev (fun k => impl_Hash.f k xs) (xs.foldl hst 11) := by
  refine loopF 1 xs hst (fun s => s) (fun k s i => impl_Hash.l0 k s xs (xs.length : Int) i) 0 (fun _ s => 0 ≤ s ∧ s < 2147483647) ?_ ?_ 11 (by omega)
  · intro i h s k _ hs
    refine ⟨?_, hst_range _ _⟩
    simp only [impl_Hash.l0, implMod, Option.bind_some]
    rw [if_pos (by omega), if_pos (by omega), if_pos (by omega), rd_nat h, wrap_succ (by omega), wrap_id (n := s * 1000003) (by omega) (by omega), wrap_id (n := s * 1000003 + xs[i] % 2147483647) (by omega) (by omega), wrap_id (n := s * 1000003 + xs[i] % 2147483647 + 13) (by omega) (by omega), Int.tmod_eq_emod_of_nonneg (by omega)]
    rfl
  · intro s k _ _
    simp only [impl_Hash.l0]
    rw [if_neg (by omega)]
/-- The keyed hash. -/
def kh (key : Int) (l : List Int) : Int := ([key] ++ l ++ [key]).foldl hst 11
theorem kh_range (key : Int) (l : List Int) : 0 ≤ kh key l ∧ kh key l < 2147483647 := by
  unfold kh; rw [List.foldl_append]; exact hst_range _ _
theorem implKH (key : Int) (l : List Int) (hl : l.length ≤ 1048576) : Ev (fun k => impl_KeyedHash.f k key l) (kh key l) := by
  obtain ⟨K, hK⟩ := implHash ([key] ++ l ++ [key]) (by simp; omega)
  dsimp only at hK
  refine ⟨K, fun k hk => ?_⟩
  have h := hK k hk
  show impl_KeyedHash.f k key l = _
  unfold impl_KeyedHash.f
  rw [wrap_id (by omega) (by omega), if_pos (by omega), if_pos (by omega), Option.bind_some, if_pos (by simp), Option.bind_some, if_pos (by simp; omega), Option.bind_some, if_pos (by simp; omega)]
  simp only [List.nil_append]
  rw [h]; rfl
def koo (h : Int) : Int := if h = 0 then 1 else h
theorem implKoo (h : Int) : impl_keyOrOne.f h = some (koo h) := by
  unfold impl_keyOrOne.f koo; split <;> rfl
theorem implKeyFor (h a s : Int) : Ev (fun k => impl_KeyFor.f k h a s) (a, s, koo (kh h [53, a, s])) := by
  obtain ⟨K, e⟩ := implKH h [53, a, s] (by simp)
  dsimp only at e
  refine ⟨K, fun k hk => ?_⟩
  show impl_KeyFor.f k h a s = _
  unfold impl_KeyFor.f
  rw [e k hk, Option.bind_some, implKoo, Option.bind_some]
def Cur (b : List Int) (i : Int) : Prop := 0 ≤ i ∧ i ≤ (b.length : Int)
theorem byte (b : List Int) (i h : Int) (hc : Cur b i) (hl : b.length ≤ 1048576) : ∃ x i' h', spec_l1Byte.f b i h = some (x, i', h') ∧ 0 ≤ x ∧ x ≤ 255 ∧ Cur b i' := by
  obtain ⟨h0, h1⟩ := hc
  unfold spec_l1Byte.f
  by_cases hi : i < (b.length : Int)
  · rw [if_pos hi, if_pos h0, wrap_id (n := i + 1) (by omega) (by omega)]
    exact ⟨_, _, _, rfl, (and_le _ 255 (by omega) (by omega)).1, (and_le _ 255 (by omega) (by omega)).2, by omega, by omega⟩
  · rw [if_neg hi]
    exact ⟨_, _, _, rfl, (and_le _ 255 (by omega) (by omega)).1, (and_le _ 255 (by omega) (by omega)).2, by omega, by omega⟩
theorem below (b : List Int) (i h n : Int) (hc : Cur b i) (hl : b.length ≤ 1048576) : ∃ x i' h', spec_l1Below.f b i h n = some (x, i', h') ∧ 0 ≤ x ∧ (0 < n → x < n) ∧ (n ≤ 0 → x = 0) ∧ Cur b i' := by
  unfold spec_l1Below.f
  by_cases h0 : n ≤ 0
  · rw [if_pos h0]; exact ⟨_, _, _, rfl, by omega, by omega, by omega, hc⟩
  · rw [if_neg h0]
    by_cases h1 : n ≤ 256
    · rw [if_pos h1]
      obtain ⟨x, i1, h1, e1, hx0, hx1, c1⟩ := byte b i h hc hl
      rw [e1, Option.bind_some, if_neg (by omega)]
      have := tmod_range x n hx0 (by omega)
      exact ⟨_, _, _, rfl, this.1, fun _ => this.2, fun h => absurd h h0, c1⟩
    · rw [if_neg h1]
      obtain ⟨x, i1, h1, e1, hx0, hx1, c1⟩ := byte b i h hc hl
      obtain ⟨y, i2, h2, e2, hy0, hy1, c2⟩ := byte b i1 h1 c1 hl
      obtain ⟨z, i3, h3, e3, hz0, hz1, c3⟩ := byte b i2 h2 c2 hl
      rw [e1, Option.bind_some, e2, Option.bind_some, e3, Option.bind_some, if_neg (by omega), wrap_id (n := x * 65536) (by omega) (by omega), wrap_id (n := y * 256) (by omega) (by omega), wrap_id (n := x * 65536 + y * 256) (by omega) (by omega), wrap_id (n := x * 65536 + y * 256 + z) (by omega) (by omega)]
      have := tmod_range (x * 65536 + y * 256 + z) n (by omega) (by omega)
      exact ⟨_, _, _, rfl, this.1, fun _ => this.2, fun h => absurd h h0, c3⟩
theorem new_ (b : List Int) (hl : b.length ≤ 1048576) : ∃ h, Ev (fun k => spec_l1New.f k b) (b, 0, h) := by
  have key : ∀ d i s, i + d = b.length → ∃ h, ∀ k, d + 1 ≤ k → spec_l1New.l0 k b s (i : Int) = some (b, 0, h) := by
    intro d
    induction d with
    | zero =>
      intro i s hi
      refine ⟨s, fun k hk => ?_⟩
      obtain ⟨k, rfl⟩ : ∃ q, k = q + 1 := ⟨k - 1, by omega⟩
      simp only [spec_l1New.l0]
      rw [if_neg (by omega)]
    | succ d ih =>
      intro i s hi
      by_cases h4 : (i : Int) < 4000
      · obtain ⟨h, hh⟩ := ih (i + 1) (Go.bits .and .i64 (wrap64 ((wrap64 ((wrap64 (s * 137)) + (wrap64 (rd b i)))) + 11)) 1073741823) (by omega)
        refine ⟨h, fun k hk => ?_⟩
        obtain ⟨k, rfl⟩ : ∃ q, k = q + 1 := ⟨k - 1, by omega⟩
        simp only [spec_l1New.l0]
        rw [if_pos (by omega), if_pos h4, if_pos (by omega), wrap_succ (by omega)]
        exact hh k (by omega)
      · refine ⟨s, fun k hk => ?_⟩
        obtain ⟨k, rfl⟩ : ∃ q, k = q + 1 := ⟨k - 1, by omega⟩
        simp only [spec_l1New.l0]
        rw [if_pos (by omega), if_neg h4]
  obtain ⟨h, hh⟩ := key b.length 0 (wrap64 (193017 + (b.length : Int))) (by omega)
  exact ⟨h, _, hh⟩
theorem cur0 (b : List Int) : Cur b 0 := ⟨by omega, by omega⟩
theorem once (b : List Int) (i h n : Int) (hc : Cur b i) (hl : b.length ≤ 1048576) : ∃ (x : Bool) (i' h' : Int), spec_l1Once.f b i h n = some (x, i', h') ∧ Cur b i' := by
  obtain ⟨x, i', h', e, _, _, _, c⟩ := below b i h n hc hl
  unfold spec_l1Once.f
  rw [e, Option.bind_some]
  exact ⟨_, _, _, rfl, c⟩
theorem pick (b : List Int) (i h : Int) (l : List Int) (hc : Cur b i) (hl : b.length ≤ 1048576) (hn : 0 < l.length) : ∃ x i' h', spec_l1Int.f b i h l = some (x, i', h') ∧ x ∈ l ∧ Cur b i' := by
  obtain ⟨x, i', h', e, h0, h1, _, c⟩ := below b i h (l.length : Int) hc hl
  unfold spec_l1Int.f
  rw [e, Option.bind_some, if_pos h0, if_pos (h1 (by omega))]
  obtain ⟨n, rfl⟩ := Int.eq_ofNat_of_zero_le h0
  have hlt : n < l.length := by have := h1 (by omega); omega
  exact ⟨_, _, _, rfl, by rw [rd_nat hlt]; exact List.getElem_mem hlt, c⟩

theorem word3 (b : List Int) (i h : Int) (hc : Cur b i) (hl : b.length ≤ 1048576) : ∃ x i' h', spec_l3Word.f b i h = some (x, i', h') ∧ Cur b i' := by
  unfold spec_l3Word.f
  obtain ⟨x1, i1, h1, e1, c1⟩ := once b i h 10 hc hl
  rw [e1, Option.bind_some]
  cases x1 with
  | true =>
    obtain ⟨x2, i2, h2, e2, _, c2⟩ := pick b i1 h1 [(-1), 2147483647, 2147483648] c1 hl (by simp)
    rw [if_pos rfl, e2, Option.bind_some]; exact ⟨_, _, _, rfl, c2⟩
  | false =>
    obtain ⟨x2, i2, h2, e2, c2⟩ := once b i1 h1 4 c1 hl
    rw [if_neg (by simp), e2, Option.bind_some]
    cases x2 with
    | true =>
      obtain ⟨x3, i3, h3, e3, _, c3⟩ := pick b i2 h2 [0, 1, 2147483646] c2 hl (by simp)
      rw [if_pos rfl, e3, Option.bind_some]; exact ⟨_, _, _, rfl, c3⟩
    | false =>
      obtain ⟨x3, i3, h3, e3, _, _, _, c3⟩ := below b i2 h2 1000000 c2 hl
      obtain ⟨x4, i4, h4, e4, _, _, _, c4⟩ := below b i3 h3 2000 c3 hl
      rw [if_neg (by simp), e3, Option.bind_some, e4, Option.bind_some]; exact ⟨_, _, _, rfl, c4⟩
theorem drawKeyFor (b : List Int) (hl : b.length ≤ 1048576) : ∃ h a s, Ev (fun k => spec_DrawKeyFor.f k b) (h, a, s) ∧ 0 ≤ a ∧ a < 5 ∧ 0 ≤ s ∧ s < 5 := by
  obtain ⟨h0, K, e0⟩ := new_ b hl
  dsimp only at e0
  obtain ⟨h, i1, h1, e1, c1⟩ := word3 b 0 h0 (cur0 b) hl
  obtain ⟨a, i2, h2, e2, a0, a1, _, c2⟩ := below b i1 h1 5 c1 hl
  obtain ⟨s, i3, h3, e3, s0, s1, _, c3⟩ := below b i2 h2 5 c2 hl
  refine ⟨h, a, s, ⟨K, fun k hk => ?_⟩, a0, a1 (by decide), s0, s1 (by decide)⟩
  show spec_DrawKeyFor.f k b = _
  unfold spec_DrawKeyFor.f
  rw [e0 k hk, Option.bind_some, e1, Option.bind_some, e2, Option.bind_some, e3, Option.bind_some]
theorem valid_koo (h : Int) (h0 : 0 ≤ h ∧ h < 2147483647) : impl_IsValidKey.f (koo h) = some true := by
  unfold impl_IsValidKey.f koo
  simp only [implIn, Option.bind_some]
  congr 1
  split <;> simp <;> omega
theorem hst_diff (x y v d : Int) (h : (x - y) % 2147483647 = d) : (hst x v - hst y v) % 2147483647 = (d * 1000003) % 2147483647 := by
  unfold hst; omega
theorem hst_first (x a : Int) (h : 0 ≤ a ∧ a < 5) : (hst x (a + 1) - hst x a) % 2147483647 = 1 := by
  unfold hst; omega
theorem koo_ne (h h' : Int) (a : 0 ≤ h ∧ h < 2147483647) (b : 0 ≤ h' ∧ h' < 2147483647) (c : (h' - h) % 2147483647 = 1000003 ∨ (h' - h) % 2147483647 = 1426104154) : koo h ≠ koo h' := by
  unfold koo; split <;> split <;> omega
theorem FnTransitionKeys : laws_FnTransitionKeys.Pure := by
  intro b hm _ _
  unfold maxLen at hm
  by_cases hbig : (b.length : Int) > 1048576
  · exact ⟨0, by unfold laws_FnTransitionKeys.f laws_big.f; rw [Option.bind_some, decide_eq_true hbig, if_pos rfl]⟩
  obtain ⟨h, a, s, ⟨K1, e1⟩, a0, a1, s0, s1⟩ := drawKeyFor b (by omega)
  have hb : laws_big.f b = some false := by unfold laws_big.f; rw [decide_eq_false hbig]
  have w1 : wrap64 (a + 1) = a + 1 := wrap_id (by omega) (by omega)
  have w2 : wrap64 (s + 1) = s + 1 := wrap_id (by omega) (by omega)
  obtain ⟨K2, e2⟩ := implKeyFor h a s
  obtain ⟨K3, e3⟩ := implKeyFor h (a + 1) s
  obtain ⟨K4, e4⟩ := implKeyFor h a (s + 1)
  obtain ⟨K5, e5⟩ := implKH h [51, s] (by simp)
  obtain ⟨K6, e6⟩ := implKH h [51, s + 1] (by simp)
  have n1 : koo (kh h [53, a, s]) ≠ koo (kh h [53, a + 1, s]) :=
    koo_ne _ _ (kh_range _ _) (kh_range _ _) (.inr (hst_diff _ _ h _ (hst_diff _ _ s _ (hst_first (hst (hst 11 h) 53) a (by omega)))))
  have n2 : koo (kh h [53, a, s]) ≠ koo (kh h [53, a, s + 1]) :=
    koo_ne _ _ (kh_range _ _) (kh_range _ _) (.inl (hst_diff _ _ h _ (hst_first (hst (hst (hst 11 h) 53) a) s (by omega))))
  have n3 : koo (kh h [51, s]) ≠ koo (kh h [51, s + 1]) :=
    koo_ne _ _ (kh_range _ _) (kh_range _ _) (.inl (hst_diff _ _ h _ (hst_first (hst (hst 11 h) 51) s (by omega))))
  have v1 := valid_koo _ (kh_range h [53, a, s])
  have v2 := valid_koo _ (kh_range h [51, s])
  refine ⟨K1 + K2 + K3 + K4 + K5 + K6 + 0, ?_⟩
  generalize hk : K1 + K2 + K3 + K4 + K5 + K6 = k
  have a1_0 := e1 (k) (by omega)
  have a2_0 := e2 (k) (by omega)
  have a3_0 := e3 (k) (by omega)
  have a4_0 := e4 (k) (by omega)
  have a5_0 := e5 (k) (by omega)
  have a6_0 := e6 (k) (by omega)
  simp only [laws_FnTransitionKeys.f, impl_HomeKey.f, a1_0, a2_0, a3_0, a4_0, a5_0, a6_0, hb, w1, w2, implKoo, n1, n2, n3, v1, v2, Option.bind_some, if_true, if_false, Bool.not_true, Bool.not_false, Bool.false_eq_true, reduceCtorEq, bne_self_eq_false]

end Go.Proofs.Ytkenlkkefmefoaa.Pure
