/- FnExactEqualMeshFrames: the pure statement: the functions that the law computes answer true. Conditions: none. -/
import Derived.Test.YtkenlkkefmefoaaOFnExactEqualMeshFrames
import Derived.Test.YtkenlkkefmefoaaPL
namespace Go.Proofs.Ytkenlkkefmefoaa.Pure
open Go Go.RowKit Go.Proofs.Ytkenlkkefmefoaa.XFnExactEqualMeshFrames Go.Proofs.YtkenlkkefmefoaaW.PrintWords Go.Proofs.YtkenlkkefmefoaaW.PrintLast Go.Proofs.YtkenlkkefmefoaaW.PrintMore Go.Proofs.Ytkenlkkefmefoaa.Open Go.Proofs.Ytkenlkkefmefoaa.OFnExactEqualMeshFrames Go.Proofs.Ytkenlkkefmefoaa.PL
set_option linter.unusedVariables false
set_option linter.unusedSimpArgs false
theorem toByteS (xs : List Int) (hl : xs.length ≤ 1048576) : Ev (fun k => laws_toByteS.f k xs) xs := by
  have h := loopMap xs (fun x => x) 0 (fun k ys i => laws_toByteS.l0 k xs ys i) 0 ?_ ?_
  · rw [List.map_id'] at h
    refine ev_congr (fun k => ?_) h
    unfold laws_toByteS.f
    rw [if_pos (by omega), if_pos (by omega), Int.toNat_natCast]
  · intro i h ys k _ hy
    simp only [laws_toByteS.l0]
    rw [if_pos (by omega), if_pos (by omega), if_pos (by omega), rd_nat h, wrap_succ (by omega), Int.toNat_natCast]
  · intro ys k _
    simp only [laws_toByteS.l0]
    rw [if_neg (by omega)]
theorem eqByteS (xs : List Int) (hl : xs.length ≤ 4194304) : Ev (fun k => laws_eqByteS.f k xs xs) true := by
  refine ev_congr (g' := fun k => laws_eqByteS.l0 k xs xs 0) (fun k => ?_) ?_
  · unfold laws_eqByteS.f
    rw [if_pos rfl]
  · refine run_loop 1 (fun k i => laws_eqByteS.l0 k xs xs (i : Int)) xs.length true 0 ?_ ?_
    · intro i h k _
      simp only [laws_eqByteS.l0, if_true]
      rw [if_pos (by omega), if_pos (by omega), if_pos (by omega), wrap_succ (by omega)]
    · intro k _
      simp only [laws_eqByteS.l0]
      rw [if_neg (by omega)]
theorem szByteS (xs : List Int) (a : Int) (ha : 0 ≤ a ∧ a ≤ 1048576) (hm : xs.length ≤ maxLen) : ∃ t, laws_szByteS.f xs a = some t ∧ t ≤ 1048576 ∧ (0 ≤ t → (xs.length : Int) ≤ a) := by
  unfold maxLen at hm
  unfold laws_szByteS.f
  rw [wrap_id (by omega) (by omega)]
  split
  · exact ⟨_, rfl, by omega, fun h => absurd h (by omega)⟩
  · exact ⟨_, rfl, by omega, fun h => by omega⟩
theorem all_eq {xs ys : List Int} (hl : xs.length = ys.length) : (List.range xs.length).all (fun i => decide (rd xs i = rd ys i)) = decide (xs = ys) := by
  rw [Bool.eq_iff_iff]
  simp only [List.all_eq_true, List.mem_range, decide_eq_true_eq]
  constructor
  · intro h
    refine List.ext_getElem hl (fun i h1 h2 => ?_)
    have := h i h1
    rwa [rd_nat h1, rd_nat h2] at this
  · intro h i _; rw [h]
theorem implEqB (xs ys : List Int) (hl : xs.length ≤ 4194304) : Ev (fun k => impl_EqualBytes.f k xs ys) (decide (xs = ys)) := by
  by_cases h : xs.length = ys.length
  · have e := loopAll 1 xs.length (fun k i => impl_EqualBytes.l0 k xs ys (xs.length : Int) i) 0 (fun i => decide (rd xs i = rd ys i)) true false ?_ ?_ ?_
    · rw [all_eq h] at e
      have e2 : (if decide (xs = ys) = true then true else false) = decide (xs = ys) := by simp
      rw [e2] at e
      refine ev_congr (fun k => ?_) e
      unfold impl_EqualBytes.f
      rw [if_pos (by omega)]
    · intro i hi k _ hp
      simp only [decide_eq_true_eq] at hp
      simp only [impl_EqualBytes.l0]
      rw [if_pos (by omega), if_pos (by omega), if_pos (by omega), if_pos (by omega), if_pos hp, wrap_succ (by omega)]
    · intro i hi k _ hp
      simp only [decide_eq_false_iff_not] at hp
      simp only [impl_EqualBytes.l0]
      rw [if_pos (by omega), if_pos (by omega), if_pos (by omega), if_pos (by omega), if_neg hp]
    · intro k _
      simp only [impl_EqualBytes.l0]
      rw [if_neg (by omega)]
  · have : decide (xs = ys) = false := decide_eq_false (fun e => h (by rw [e]))
    rw [this]
    refine ev_some (fun k => ?_)
    unfold impl_EqualBytes.f
    rw [if_neg (by omega)]
theorem str_inj {xs ys : List Int} (hx : ∀ x ∈ xs, U8 x) (hy : ∀ x ∈ ys, U8 x) (h : (strOfNums xs).toList = (strOfNums ys).toList) : xs = ys := by
  rw [ByteArray.toList_eq, ByteArray.toList_eq, strOfNums_data, strOfNums_data] at h
  have hl : xs.length = ys.length := by have := congrArg List.length h; simpa using this
  refine List.ext_getElem hl (fun i h1 h2 => ?_)
  have e := congrArg (fun l => l[i]?) h
  simp only [List.getElem?_map, List.getElem?_eq_getElem h1, List.getElem?_eq_getElem h2, Option.map_some, Option.some.injEq] at e
  have e2 := congrArg UInt8.toNat e
  have a := hx _ (List.getElem_mem h1)
  have b := hy _ (List.getElem_mem h2)
  unfold U8 at a b
  simp only [UInt8.toNat_ofNat'] at e2
  omega
theorem specEqB (xs ys : List Int) (hx : ∀ x ∈ xs, U8 x) (hy : ∀ x ∈ ys, U8 x) : spec_EqualBytes.f xs ys = some (decide (xs = ys)) := by
  unfold spec_EqualBytes.f
  congr 1
  rw [Bool.eq_iff_iff, beq_iff_eq, decide_eq_true_eq]
  exact ⟨str_inj hx hy, fun h => by rw [h]⟩

theorem szMF (a b c d : Int) (l : List Int) (n : Int) (hn : 0 ≤ n ∧ n ≤ 1048576) (hm : l.length ≤ maxLen) : ∃ t, laws_szMeshFrame.f a b c d l n = some t ∧ t ≤ 1048576 ∧ (0 ≤ t → (l.length : Int) ≤ n) := by
  obtain ⟨t, e, h1, h2⟩ := szByteS l n hn hm
  unfold laws_szMeshFrame.f
  rw [e, Option.bind_some]
  split
  · exact ⟨_, rfl, by omega, fun h => absurd h (by omega)⟩
  · exact ⟨_, rfl, h1, h2⟩
theorem FnExactEqualMeshFrames : OFnExactEqualMeshFrames.Pure := by
  intro a0 a1 a2 a3 x b0 b1 b2 b3 y _ _ _ _ ⟨hx, ux⟩ _ _ _ _ ⟨hy, uy⟩
  obtain ⟨t, ht, ht1, hl⟩ := szMF a0 a1 a2 a3 x 1048576 (by omega) hx
  by_cases hneg : t < 0
  · exact ⟨0, by unfold laws_FnExactEqualMeshFrames.f; rw [ht, Option.bind_some, if_pos hneg]⟩
  obtain ⟨u, hu, hu1, hl2⟩ := szMF b0 b1 b2 b3 y t (by omega) hy
  by_cases hneg2 : u < 0
  · exact ⟨0, by unfold laws_FnExactEqualMeshFrames.f; rw [ht, Option.bind_some, if_neg hneg, hu, Option.bind_some, if_pos hneg2]⟩
  have hxl : x.length ≤ 1048576 := by have := hl (by omega); omega
  have hyl : y.length ≤ 1048576 := by have := hl2 (by omega); omega
  obtain ⟨K1, e1⟩ := toByteS x hxl
  obtain ⟨K2, e2⟩ := toByteS y hyl
  obtain ⟨K3, e3⟩ := eqByteS x (by omega)
  obtain ⟨K4, e4⟩ := eqByteS y (by omega)
  obtain ⟨K5, e5⟩ := implEqB x y (by omega)
  dsimp only at e1 e2 e3 e4 e5
  have hs := specEqB x y ux uy
  have T1 : ∀ k, K1 + K2 ≤ k → laws_toMeshFrame.f k a0 a1 a2 a3 x = some (a0, a1, a2, a3, x) ∧ laws_toMeshFrame.f k b0 b1 b2 b3 y = some (b0, b1, b2, b3, y) := fun k hk => by
    unfold laws_toMeshFrame.f
    rw [e1 k (by omega), e2 k (by omega)]; exact ⟨rfl, rfl⟩
  have T2 : ∃ r, spec_EqualMeshFrames.f a0 a1 a2 a3 x b0 b1 b2 b3 y = some r ∧ ∀ k, K5 ≤ k → impl_EqualMeshFrames.f k a0 a1 a2 a3 x b0 b1 b2 b3 y = some r := by
    unfold spec_EqualMeshFrames.f impl_EqualMeshFrames.f
    by_cases h0 : a0 = b0
    · by_cases h1 : a1 = b1
      · by_cases h2 : a2 = b2
        · by_cases h3 : a3 = b3
          · refine ⟨decide (x = y), ?_, fun k hk => ?_⟩
            · rw [if_pos h0, if_pos h1, if_pos h2, if_pos h3, hs]; rfl
            · rw [if_pos h0, if_pos h1, if_pos h2, if_pos h3, e5 k hk]; rfl
          · exact ⟨false, by rw [if_pos h0, if_pos h1, if_pos h2, if_neg h3], fun k _ => by rw [if_pos h0, if_pos h1, if_pos h2, if_neg h3]⟩
        · exact ⟨false, by rw [if_pos h0, if_pos h1, if_neg h2], fun k _ => by rw [if_pos h0, if_pos h1, if_neg h2]⟩
      · exact ⟨false, by rw [if_pos h0, if_neg h1], fun k _ => by rw [if_pos h0, if_neg h1]⟩
    · exact ⟨false, by rw [if_neg h0], fun k _ => by rw [if_neg h0]⟩
  obtain ⟨r, s1, s2⟩ := T2
  refine ⟨K1 + K2 + K3 + K4 + K5, ?_⟩
  generalize hk : K1 + K2 + K3 + K4 + K5 = k
  obtain ⟨t1, t2⟩ := T1 k (by omega)
  have q := s2 k (by omega)
  have r3 := e3 k (by omega)
  have r4 := e4 k (by omega)
  simp only [laws_FnExactEqualMeshFrames.f, laws_eqMeshFrame.f, ht, hu, hneg, hneg2, t1, t2, s1, q, r3, r4, Option.bind_some, if_true, if_false, bne_self_eq_false, Bool.false_eq_true]

end Go.Proofs.Ytkenlkkefmefoaa.Pure
