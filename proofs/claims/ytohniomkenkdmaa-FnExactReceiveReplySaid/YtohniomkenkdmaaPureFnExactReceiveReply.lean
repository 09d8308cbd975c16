/- FnExactReceiveReply: the pure statement: the functions that the law computes answer true. Conditions: none. -/
import Derived.Test.YtohniomkenkdmaaOFnExactReceiveReply
import Derived.Test.YtohniomkenkdmaaPL
namespace Go.Proofs.Ytohniomkenkdmaa.Pure
open Go Go.RowKit Go.Proofs.Ytohniomkenkdmaa.XFnExactReceiveReply Go.Proofs.YtohniomkenkdmaaW.PrintWords Go.Proofs.YtohniomkenkdmaaW.PrintLast Go.Proofs.YtohniomkenkdmaaW.PrintMore Go.Proofs.Ytohniomkenkdmaa.Open Go.Proofs.Ytohniomkenkdmaa.OFnExactReceiveReply Go.Proofs.Ytohniomkenkdmaa.PL
set_option linter.unusedVariables false
set_option linter.unusedSimpArgs false
theorem implIn (a b c : Int) : impl_InRange.f a b c = some (decide (b ≤ a ∧ a ≤ c)) := by
  unfold impl_InRange.f
  by_cases h : b ≤ a <;> simp [h]

theorem implMod (a : Int) : impl_Mod.f a 2147483647 = some (a % 2147483647) := by
  unfold impl_Mod.f
  rw [implIn, Option.bind_some, if_pos (by decide), if_neg (by decide)]
  have h := tmodM a 2147483647 (by decide)
  have h1 := Int.lt_tmod_of_pos a (show (0 : Int) < 2147483647 by decide)
  by_cases h0 : Int.tmod a 2147483647 < 0
  · rw [if_pos h0] at h ⊢; rw [wrap_id (by omega) (by omega), h]
  · rw [if_neg h0] at h ⊢; rw [h]
/-- One step of the hash. -/
def hst (acc v : Int) : Int := (acc * 1000003 + v % 2147483647 + 13) % 2147483647
theorem hst_range (a v : Int) : 0 ≤ hst a v ∧ hst a v < 2147483647 := by unfold hst; omega
theorem implHash (xs : List Int) (hl : xs.length ≤ 4194304) : Ev (fun k => impl_Hash.f k xs) (xs.foldl hst 11) := by
  refine loopF 1 xs hst (fun s => s) (fun k s i => impl_Hash.l0 k s xs (xs.length : Int) i) 0 (fun _ s => 0 ≤ s ∧ s < 2147483647) ?_ ?_ 11 (by omega)
  · intro i h s k _ hs
    refine ⟨?_, hst_range _ _⟩
    simp only [impl_Hash.l0, implMod, Option.bind_some]
    rw [if_pos (by omega), if_pos (by omega), if_pos (by omega), rd_nat h, wrap_succ (by omega), wrap_id (n := s * 1000003) (by omega) (by omega), wrap_id (n := s * 1000003 + xs[i] % 2147483647) (by omega) (by omega), wrap_id (n := s * 1000003 + xs[i] % 2147483647 + 13) (by omega) (by omega), Int.tmod_eq_emod_of_nonneg (by omega)]
    rfl
  · intro s k _ _
    simp only [impl_Hash.l0]
    rw [if_neg (by omega)]
/-- The keyed hash. -/
def kh (key : Int) (l : List Int) : Int := ([key] ++ l ++ [key]).foldl hst 11
theorem kh_range (key : Int) (l : List Int) : 0 ≤ kh key l ∧ kh key l < 2147483647 := by
  unfold kh; rw [List.foldl_append]; exact hst_range _ _
theorem implKH (key : Int) (l : List Int) (hl : l.length ≤ 1048576) : Ev (fun k => impl_KeyedHash.f k key l) (kh key l) := by
  obtain ⟨K, hK⟩ := implHash ([key] ++ l ++ [key]) (by simp; omega)
  dsimp only at hK
  refine ⟨K, fun k hk => ?_⟩
  have h := hK k hk
  show impl_KeyedHash.f k key l = _
  unfold impl_KeyedHash.f
  rw [wrap_id (by omega) (by omega), if_pos (by omega), if_pos (by omega), Option.bind_some, if_pos (by simp), Option.bind_some, if_pos (by simp; omega), Option.bind_some, if_pos (by simp; omega)]
  simp only [List.nil_append]
  rw [h]; rfl
def koo (h : Int) : Int := if h = 0 then 1 else h
theorem implKoo (h : Int) : impl_keyOrOne.f h = some (koo h) := by
  unfold impl_keyOrOne.f koo; split <;> rfl
theorem implKeyFor (h a s : Int) : Ev (fun k => impl_KeyFor.f k h a s) (a, s, koo (kh h [53, a, s])) := by
  obtain ⟨K, e⟩ := implKH h [53, a, s] (by simp)
  dsimp only at e
  refine ⟨K, fun k hk => ?_⟩
  show impl_KeyFor.f k h a s = _
  unfold impl_KeyFor.f
  rw [e k hk, Option.bind_some, implKoo, Option.bind_some]
theorem specIn (a b c : Int) : spec_l1In.f a b c = some (decide (b ≤ a ∧ a ≤ c)) := by
  unfold spec_l1In.f
  by_cases h : b ≤ a <;> simp [h]

theorem specMod (a : Int) : spec_Mod.f a 2147483647 = some (a % 2147483647) := by
  unfold spec_Mod.f
  simp only [specIn, Option.bind_some]
  rw [if_pos (by decide)]
  have h := tmodM a 2147483647 (by decide)
  have h1 := Int.lt_tmod_of_pos a (show (0 : Int) < 2147483647 by decide)
  have h2 := Int.tmod_lt_of_pos a (show (0 : Int) < 2147483647 by decide)
  simp only [show ¬ ((2147483647 : Int) = 0) from by decide, if_false]
  rw [wrap_id (by omega) (by omega), Int.tmod_eq_emod_of_nonneg (by omega)]
  congr 1
  split at h <;> omega
theorem specHash (xs : List Int) (hl : xs.length ≤ 4194304) : Ev (fun k => spec_Hash.f k xs) (xs.foldl hst 11) := by
  refine loopF 1 xs hst (fun s => s) (fun k s i => spec_Hash.l0 k xs s i) 0 (fun _ s => 0 ≤ s ∧ s < 2147483647) ?_ ?_ 11 (by omega)
  · intro i h s k _ hs
    refine ⟨?_, hst_range _ _⟩
    simp only [spec_Hash.l0, specMod, Option.bind_some]
    rw [if_pos (by omega), if_pos (by omega), rd_nat h, wrap_succ (by omega), wrap_id (n := s * 1000003) (by omega) (by omega), wrap_id (n := s * 1000003 + xs[i] % 2147483647) (by omega) (by omega), wrap_id (n := s * 1000003 + xs[i] % 2147483647 + 13) (by omega) (by omega), Int.tmod_eq_emod_of_nonneg (by omega)]
    rfl
  · intro s k _ _
    simp only [spec_Hash.l0]
    rw [if_neg (by omega)]
theorem specKH (key : Int) (l : List Int) (hl : l.length ≤ 1048576) : Ev (fun k => spec_KeyedHash.f k key l) (kh key l) := by
  obtain ⟨K, hK⟩ := specHash ([key] ++ l ++ [key]) (by simp; omega)
  dsimp only at hK
  refine ⟨K, fun k hk => ?_⟩
  have h := hK k hk
  show spec_KeyedHash.f k key l = _
  unfold spec_KeyedHash.f
  simp only [Option.bind_some, List.length_append, List.length_cons, List.length_nil]
  rw [if_pos (by omega)]
  try rw [if_pos (by omega)]
  rw [h]; rfl

theorem specMax1 (h : Int) (h0 : 0 ≤ h) : spec_Max.f 1 h = some (koo h) := by
  unfold spec_Max.f koo
  by_cases e : h = 0
  · subst e; rfl
  · by_cases e1 : h = 1
    · subst e1; rfl
    · rw [if_pos (by omega), if_neg e]
theorem specKeyFor (h a s : Int) : Ev (fun k => spec_KeyFor.f k h a s) (a, s, koo (kh h [53, a, s])) := by
  obtain ⟨K, e⟩ := specKH h [53, a, s] (by simp)
  dsimp only at e
  refine ⟨K, fun k hk => ?_⟩
  show spec_KeyFor.f k h a s = _
  unfold spec_KeyFor.f
  rw [e k hk, Option.bind_some, specMax1 _ (kh_range _ _).1, Option.bind_some]

theorem FnExactReceiveReply : OFnExactReceiveReply.Pure := by
  intro h s0 s1 s2 s3 s4 r0 r1 r2 r3 r4 _ _ _ _ _ _ _ _ _ _ _
  obtain ⟨K1, e1⟩ := implKeyFor h s2 s0
  obtain ⟨K2, e2⟩ := specKeyFor h s2 s0
  obtain ⟨K3, e3⟩ := implKH (koo (kh h [53, s2, s0])) [59, r0, r1, r2, r3] (by simp)
  obtain ⟨K4, e4⟩ := specKH (koo (kh h [53, s2, s0])) [59, r0, r1, r2, r3] (by simp)
  obtain ⟨K5, e5⟩ := implKH (koo (kh h [53, s2, s0])) [61, s3, r2] (by simp)
  obtain ⟨K6, e6⟩ := specKH (koo (kh h [53, s2, s0])) [61, s3, r2] (by simp)
  have m1 := specMax1 _ (kh_range (koo (kh h [53, s2, s0])) [61, s3, r2]).1
  refine ⟨K1 + K2 + K3 + K4 + K5 + K6 + 0, ?_⟩
  generalize hk : K1 + K2 + K3 + K4 + K5 + K6 = k
  have a1_0 := e1 (k) (by omega)
  have a2_0 := e2 (k) (by omega)
  have a3_0 := e3 (k) (by omega)
  have a4_0 := e4 (k) (by omega)
  have a5_0 := e5 (k) (by omega)
  have a6_0 := e6 (k) (by omega)
  dsimp only at a1_0 a2_0 a3_0 a4_0 a5_0 a6_0
  clear e1 e2 e3 e4 e5 e6
  by_cases c0 : r0 = s0 <;> by_cases c1 : r1 = s2 <;> by_cases c2 : r3 = s3 <;> by_cases c3 : r4 = kh (koo (kh h [53, s2, s0])) [59, r0, r1, r2, r3] <;>
  (try subst c0) <;> (try subst c1) <;> (try subst c2) <;> (try subst c3) <;>
  simp only [laws_FnExactReceiveReply.f, laws_toTransitionRequest.f, laws_toTransitionReply.f, spec_ReceiveReply.f, impl_ReceiveReply.f, spec_l33Reply.f, impl_replyMac.f, spec_SessionKeyOf.f, impl_SessionKeyOf.f, a1_0, a2_0, a3_0, a4_0, a5_0, a6_0, decide_true, decide_false, bne_iff_ne, ne_eq, not_true_eq_false, not_false_eq_true, *, implKoo, m1, Option.bind_some, if_true, if_false, Bool.not_true, Bool.not_false, Bool.false_eq_true, reduceCtorEq, bne_self_eq_false]

end Go.Proofs.Ytohniomkenkdmaa.Pure
