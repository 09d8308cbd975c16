/- FnExactDistributeKeys: the pure statement: the functions that the law computes answer true. Conditions: none. -/
import Derived.Test.YtohniomkenkdmaaXFnExactDistributeKeysx3
import Derived.Test.YtohniomkenkdmaaPL
namespace Go.Proofs.Ytohniomkenkdmaa.Pure
open Go Go.RowKit Go.Proofs.Ytohniomkenkdmaa.XFnExactDistributeKeys Go.Proofs.YtohniomkenkdmaaW.PrintWords Go.Proofs.YtohniomkenkdmaaW.PrintLast Go.Proofs.YtohniomkenkdmaaW.PrintMore Go.Proofs.Ytohniomkenkdmaa.PL
set_option linter.unusedVariables false
set_option linter.unusedSimpArgs false
theorem rd62 {xs : List S62} {i : Nat} (h : i < xs.length) : rd_T62 xs (i : Int) = xs[i] := getD_nat h
theorem rdset62 {xs : List S62} {v : S62} {i : Nat} (h : i < xs.length) : rd_T62 (xs.set i v) (i : Int) = v := getD_set h
theorem rdrange62 {n : Nat} {g : Nat → S62} {i : Nat} (h : i < n) : rd_T62 ((List.range n).map g) (i : Int) = g i := getD_range h
theorem eqTransitionKeyS (xs : List S62) (hl : xs.length ≤ 4194304) : Ev (fun k => laws_eqTransitionKeyS.f k xs xs) true := by
  refine ev_congr (g' := fun k => laws_eqTransitionKeyS.l0 k xs xs 0) (fun k => ?_) ?_
  · unfold laws_eqTransitionKeyS.f
    rw [if_pos rfl]
  · refine run_loop 1 (fun k i => laws_eqTransitionKeyS.l0 k xs xs (i : Int)) xs.length true 0 ?_ ?_
    · intro i h k _
      simp only [laws_eqTransitionKeyS.l0, laws_eqTransitionKey.f, if_true, Option.bind_some]
      rw [if_pos (by omega), if_pos (by omega), if_pos (by omega), wrap_succ (by omega)]
    · intro k _
      simp only [laws_eqTransitionKeyS.l0]
      rw [if_neg (by omega)]
def mkTransitionKey (i : Nat) : S62 := ⟨1 + 3 * (i : Int), 1 + 3 * (i : Int) + 1, 1 + 3 * (i : Int) + 2⟩
theorem markTransitionKeyS (xs : List S62) (hl : xs.length ≤ 4194304) : Ev (fun k => laws_markTransitionKeyS.f k xs 1) (1 + 3 * (xs.length : Int), (List.range xs.length).map mkTransitionKey) := by
  refine ev_congr (g' := fun k => laws_markTransitionKeyS.l0 k xs (1 + 3 * ((0 : Nat) : Int)) 0) (fun k => rfl) ?_
  refine loopFill xs mkTransitionKey (fun i => 1 + 3 * (i : Int)) (fun ys => (1 + 3 * (xs.length : Int), ys)) (fun k ys a i => laws_markTransitionKeyS.l0 k ys a i) 0 ?_ ?_
  · intro i h ys k _ hy
    have h' : i < ys.length := by omega
    simp only [laws_markTransitionKeyS.l0, Option.bind_some]
    rw [if_pos (by omega), if_pos (by omega), Int.toNat_natCast]
    repeat rw [wrap_id (by omega) (by omega)]
    simp only [List.set_set, rdset62 h', rd62 h']
    congr 1 <;> first | omega | (congr 1; simp only [mkTransitionKey]; congr 1 <;> omega)
  · intro ys k _ hy
    simp only [laws_markTransitionKeyS.l0]
    rw [if_neg (by omega)]
theorem heldTransitionKeyS (n : Nat) (hl : n ≤ 4194304) : Ev (fun k => laws_heldTransitionKeyS.f k ((List.range n).map mkTransitionKey) 1) (1 + 3 * (n : Int)) := by
  refine ev_congr (g' := fun k => laws_heldTransitionKeyS.l0 k ((List.range n).map mkTransitionKey) (1 + 3 * ((0 : Nat) : Int)) ((0 : Nat) : Int)) (fun k => rfl) ?_
  refine run_loop 1 (fun k i => laws_heldTransitionKeyS.l0 k ((List.range n).map mkTransitionKey) (1 + 3 * (i : Int)) (i : Int)) n _ 0 ?_ ?_
  · intro i h k _
    have hn : ((List.range n).map mkTransitionKey).length = n := by simp
    simp only [laws_heldTransitionKeyS.l0, rdrange62 h, hn, mkTransitionKey]
    rw [if_pos (by omega), if_pos (by omega)]
    simp only [if_true]
    repeat rw [wrap_id (by omega) (by omega)]
    repeat rw [if_pos (by omega)]
    congr 1 <;> omega
  · intro k _
    have hn : ((List.range n).map mkTransitionKey).length = n := by simp
    simp only [laws_heldTransitionKeyS.l0, hn]
    rw [if_neg (by omega)]
theorem toIntS (xs : List Int) (hl : xs.length ≤ 1048576) : Ev (fun k => laws_toIntS.f k xs) xs := by
  have h := loopMap xs (fun x => x) 0 (fun k ys i => laws_toIntS.l0 k xs ys i) 0 ?_ ?_
  · rw [List.map_id'] at h
    refine ev_congr (fun k => ?_) h
    unfold laws_toIntS.f
    rw [if_pos (by omega), if_pos (by omega), Int.toNat_natCast]
  · intro i h ys k _ hy
    simp only [laws_toIntS.l0]
    rw [if_pos (by omega), if_pos (by omega), if_pos (by omega), rd_nat h, wrap_succ (by omega), Int.toNat_natCast]
  · intro ys k _
    simp only [laws_toIntS.l0]
    rw [if_neg (by omega)]
theorem eqIntS (xs : List Int) (hl : xs.length ≤ 4194304) : Ev (fun k => laws_eqIntS.f k xs xs) true := by
  refine ev_congr (g' := fun k => laws_eqIntS.l0 k xs xs 0) (fun k => ?_) ?_
  · unfold laws_eqIntS.f
    rw [if_pos rfl]
  · refine run_loop 1 (fun k i => laws_eqIntS.l0 k xs xs (i : Int)) xs.length true 0 ?_ ?_
    · intro i h k _
      simp only [laws_eqIntS.l0, if_true]
      rw [if_pos (by omega), if_pos (by omega), if_pos (by omega), wrap_succ (by omega)]
    · intro k _
      simp only [laws_eqIntS.l0]
      rw [if_neg (by omega)]
def mkInt (i : Nat) : Int := 1 + (i : Int)
theorem markIntS (xs : List Int) (hl : xs.length ≤ 4194304) : Ev (fun k => laws_markIntS.f k xs 1) (1 + (xs.length : Int), (List.range xs.length).map mkInt) := by
  refine ev_congr (g' := fun k => laws_markIntS.l0 k xs (1 + ((0 : Nat) : Int)) 0) (fun k => rfl) ?_
  refine loopFill xs mkInt (fun i => 1 + (i : Int)) (fun ys => (1 + (xs.length : Int), ys)) (fun k ys a i => laws_markIntS.l0 k ys a i) 0 ?_ ?_
  · intro i h ys k _ hy
    simp only [laws_markIntS.l0]
    rw [if_pos (by omega), if_pos (by omega), Int.toNat_natCast, wrap_succ (by omega), wrap_id (by omega) (by omega)]
    congr 1 <;> omega
  · intro ys k _ hy
    simp only [laws_markIntS.l0]
    rw [if_neg (by omega)]
theorem implIn (a b c : Int) : impl_InRange.f a b c = some (decide (b ≤ a ∧ a ≤ c)) := by
  unfold impl_InRange.f
  by_cases h : b ≤ a <;> simp [h]

theorem implMod (a : Int) : impl_Mod.f a 2147483647 = some (a % 2147483647) := by
  unfold impl_Mod.f
  rw [implIn, Option.bind_some, if_pos (by decide), if_neg (by decide)]
  have h := tmodM a 2147483647 (by decide)
  have h1 := Int.lt_tmod_of_pos a (show (0 : Int) < 2147483647 by decide)
  by_cases h0 : Int.tmod a 2147483647 < 0
  · rw [if_pos h0] at h ⊢; rw [wrap_id (by omega) (by omega), h]
  · rw [if_neg h0] at h ⊢; rw [h]
/-- One step of the hash. -/
def hst (acc v : Int) : Int := (acc * 1000003 + v % 2147483647 + 13) % 2147483647
theorem hst_range (a v : Int) : 0 ≤ hst a v ∧ hst a v < 2147483647 := by unfold hst; omega
theorem implHash (xs : List Int) (hl : xs.length ≤ 4194304) : Ev (fun k => impl_Hash.f k xs) (xs.foldl hst 11) := by
  refine loopF 1 xs hst (fun s => s) (fun k s i => impl_Hash.l0 k s xs (xs.length : Int) i) 0 (fun _ s => 0 ≤ s ∧ s < 2147483647) ?_ ?_ 11 (by omega)
  · intro i h s k _ hs
    refine ⟨?_, hst_range _ _⟩
    simp only [impl_Hash.l0, implMod, Option.bind_some]
    rw [if_pos (by omega), if_pos (by omega), if_pos (by omega), rd_nat h, wrap_succ (by omega), wrap_id (n := s * 1000003) (by omega) (by omega), wrap_id (n := s * 1000003 + xs[i] % 2147483647) (by omega) (by omega), wrap_id (n := s * 1000003 + xs[i] % 2147483647 + 13) (by omega) (by omega), Int.tmod_eq_emod_of_nonneg (by omega)]
    rfl
  · intro s k _ _
    simp only [impl_Hash.l0]
    rw [if_neg (by omega)]
/-- The keyed hash. -/
def kh (key : Int) (l : List Int) : Int := ([key] ++ l ++ [key]).foldl hst 11
theorem kh_range (key : Int) (l : List Int) : 0 ≤ kh key l ∧ kh key l < 2147483647 := by
  unfold kh; rw [List.foldl_append]; exact hst_range _ _
theorem implKH (key : Int) (l : List Int) (hl : l.length ≤ 1048576) : Ev (fun k => impl_KeyedHash.f k key l) (kh key l) := by
  obtain ⟨K, hK⟩ := implHash ([key] ++ l ++ [key]) (by simp; omega)
  dsimp only at hK
  refine ⟨K, fun k hk => ?_⟩
  have h := hK k hk
  show impl_KeyedHash.f k key l = _
  unfold impl_KeyedHash.f
  rw [wrap_id (by omega) (by omega), if_pos (by omega), if_pos (by omega), Option.bind_some, if_pos (by simp), Option.bind_some, if_pos (by simp; omega), Option.bind_some, if_pos (by simp; omega)]
  simp only [List.nil_append]
  rw [h]; rfl
def koo (h : Int) : Int := if h = 0 then 1 else h
theorem implKoo (h : Int) : impl_keyOrOne.f h = some (koo h) := by
  unfold impl_keyOrOne.f koo; split <;> rfl
theorem implKeyFor (h a s : Int) : Ev (fun k => impl_KeyFor.f k h a s) (a, s, koo (kh h [53, a, s])) := by
  obtain ⟨K, e⟩ := implKH h [53, a, s] (by simp)
  dsimp only at e
  refine ⟨K, fun k hk => ?_⟩
  show impl_KeyFor.f k h a s = _
  unfold impl_KeyFor.f
  rw [e k hk, Option.bind_some, implKoo, Option.bind_some]
theorem specIn (a b c : Int) : spec_l1In.f a b c = some (decide (b ≤ a ∧ a ≤ c)) := by
  unfold spec_l1In.f
  by_cases h : b ≤ a <;> simp [h]

theorem specMod (a : Int) : spec_Mod.f a 2147483647 = some (a % 2147483647) := by
  unfold spec_Mod.f
  simp only [specIn, Option.bind_some]
  rw [if_pos (by decide)]
  have h := tmodM a 2147483647 (by decide)
  have h1 := Int.lt_tmod_of_pos a (show (0 : Int) < 2147483647 by decide)
  have h2 := Int.tmod_lt_of_pos a (show (0 : Int) < 2147483647 by decide)
  simp only [show ¬ ((2147483647 : Int) = 0) from by decide, if_false]
  rw [wrap_id (by omega) (by omega), Int.tmod_eq_emod_of_nonneg (by omega)]
  congr 1
  split at h <;> omega
theorem specHash (xs : List Int) (hl : xs.length ≤ 4194304) : Ev (fun k => spec_Hash.f k xs) (xs.foldl hst 11) := by
  refine loopF 1 xs hst (fun s => s) (fun k s i => spec_Hash.l0 k xs s i) 0 (fun _ s => 0 ≤ s ∧ s < 2147483647) ?_ ?_ 11 (by omega)
  · intro i h s k _ hs
    refine ⟨?_, hst_range _ _⟩
    simp only [spec_Hash.l0, specMod, Option.bind_some]
    rw [if_pos (by omega), if_pos (by omega), rd_nat h, wrap_succ (by omega), wrap_id (n := s * 1000003) (by omega) (by omega), wrap_id (n := s * 1000003 + xs[i] % 2147483647) (by omega) (by omega), wrap_id (n := s * 1000003 + xs[i] % 2147483647 + 13) (by omega) (by omega), Int.tmod_eq_emod_of_nonneg (by omega)]
    rfl
  · intro s k _ _
    simp only [spec_Hash.l0]
    rw [if_neg (by omega)]
theorem specKH (key : Int) (l : List Int) (hl : l.length ≤ 1048576) : Ev (fun k => spec_KeyedHash.f k key l) (kh key l) := by
  obtain ⟨K, hK⟩ := specHash ([key] ++ l ++ [key]) (by simp; omega)
  dsimp only at hK
  refine ⟨K, fun k hk => ?_⟩
  have h := hK k hk
  show spec_KeyedHash.f k key l = _
  unfold spec_KeyedHash.f
  simp only [Option.bind_some, List.length_append, List.length_cons, List.length_nil]
  rw [if_pos (by omega)]
  try rw [if_pos (by omega)]
  rw [h]; rfl

theorem specMax1 (h : Int) (h0 : 0 ≤ h) : spec_Max.f 1 h = some (koo h) := by
  unfold spec_Max.f koo
  by_cases e : h = 0
  · subst e; rfl
  · by_cases e1 : h = 1
    · subst e1; rfl
    · rw [if_pos (by omega), if_neg e]
theorem specKeyFor (h a s : Int) : Ev (fun k => spec_KeyFor.f k h a s) (a, s, koo (kh h [53, a, s])) := by
  obtain ⟨K, e⟩ := specKH h [53, a, s] (by simp)
  dsimp only at e
  refine ⟨K, fun k hk => ?_⟩
  show spec_KeyFor.f k h a s = _
  unfold spec_KeyFor.f
  rw [e k hk, Option.bind_some, specMax1 _ (kh_range _ _).1, Option.bind_some]

def dk (h s a : Int) : S62 := ⟨a, s, koo (kh h [53, a, s])⟩
theorem implDK (h s : Int) (xs : List Int) (hl : xs.length ≤ 1048576) : Ev (fun k => impl_DistributeKeys.f k h s xs) (xs.map (dk h s)) := by
  obtain ⟨K, e⟩ := ev_all xs (fun a k => impl_KeyFor.f k h a s) (fun a => (a, s, koo (kh h [53, a, s]))) (fun a _ => implKeyFor h a s)
  have main := loopPush 1 xs (dk h s) (fun out => out) (fun k out i => impl_DistributeKeys.l0 k h s out xs (xs.length : Int) i) K ?_ ?_
  · refine ev_congr (fun k => ?_) main
    unfold impl_DistributeKeys.f
    rw [if_pos (by omega), if_pos (by omega)]
  · intro i hi out k hk ho
    simp only [impl_DistributeKeys.l0]
    rw [if_pos (by omega), if_pos (by omega), if_pos (by omega), rd_nat hi, wrap_succ (by omega), e _ (List.getElem_mem hi) k hk, Option.bind_some, if_pos (by omega)]
    rfl
  · intro out k _ _
    simp only [impl_DistributeKeys.l0]
    rw [if_neg (by omega)]
theorem specDK (h s : Int) (xs : List Int) (hl : xs.length ≤ 1048576) : Ev (fun k => spec_DistributeKeys.f k h s xs) (xs.map (dk h s)) := by
  obtain ⟨K, e⟩ := ev_all xs (fun a k => spec_KeyFor.f k h a s) (fun a => (a, s, koo (kh h [53, a, s]))) (fun a _ => specKeyFor h a s)
  refine loopPush 1 xs (dk h s) (fun out => out) (fun k out i => spec_DistributeKeys.l0 k h s xs out i) K ?_ ?_
  · intro i hi out k hk ho
    simp only [spec_DistributeKeys.l0]
    rw [if_pos (by omega), if_pos (by omega), rd_nat hi, wrap_succ (by omega), e _ (List.getElem_mem hi) k hk, Option.bind_some, if_pos (by omega)]
    rfl
  · intro out k _ _
    simp only [spec_DistributeKeys.l0]
    rw [if_neg (by omega)]
theorem FnExactDistributeKeys : laws_FnExactDistributeKeys.Pure := by
  intro h s X _ _ hm _ _
  unfold maxLen at hm
  by_cases hbig : (X.length : Int) > 1048576
  · exact ⟨0, by unfold laws_FnExactDistributeKeys.f; rw [if_pos hbig]⟩
  have hl : X.length ≤ 1048576 := by omega
  obtain ⟨K1, e1⟩ := toIntS X hl
  obtain ⟨K2, e2⟩ := implDK h s X hl
  obtain ⟨K3, e3⟩ := specDK h s X hl
  have hW : (X.map (dk h s)).length ≤ 1048576 := by simpa using hl
  generalize X.map (dk h s) = W at e2 e3 hW
  obtain ⟨K4, e4⟩ := eqIntS X (by omega)
  obtain ⟨K5, e5⟩ := eqTransitionKeyS W (by omega)
  obtain ⟨K6, e6⟩ := markIntS X (by omega)
  obtain ⟨K7, e7⟩ := markTransitionKeyS W (by omega)
  obtain ⟨K8, e8⟩ := heldTransitionKeyS W.length (by omega)
  have hn1 : ¬ (1 + (X.length : Int) < 0) := by omega
  have hn2 : ¬ (1 + 3 * (W.length : Int) < 0) := by omega
  refine ⟨K1 + K2 + K3 + K4 + K5 + K6 + K7 + K8 + 1, ?_⟩
  generalize hk : K1 + K2 + K3 + K4 + K5 + K6 + K7 + K8 = k
  have a1_0 := e1 (k) (by omega)
  have a1_1 := e1 (k + 1) (by omega)
  have a2_0 := e2 (k) (by omega)
  have a2_1 := e2 (k + 1) (by omega)
  have a3_0 := e3 (k) (by omega)
  have a3_1 := e3 (k + 1) (by omega)
  have a4_0 := e4 (k) (by omega)
  have a4_1 := e4 (k + 1) (by omega)
  have a5_0 := e5 (k) (by omega)
  have a5_1 := e5 (k + 1) (by omega)
  have a6_0 := e6 (k) (by omega)
  have a6_1 := e6 (k + 1) (by omega)
  have a7_0 := e7 (k) (by omega)
  have a7_1 := e7 (k + 1) (by omega)
  have a8_0 := e8 (k) (by omega)
  have a8_1 := e8 (k + 1) (by omega)
  simp only [laws_FnExactDistributeKeys.f, laws_FnExactDistributeKeys.j0, a1_0, a1_1, a2_0, a2_1, a3_0, a3_1, a4_0, a4_1, a5_0, a5_1, a6_0, a6_1, a7_0, a7_1, a8_0, a8_1, hbig, hn1, hn2, Option.bind_some, if_true, if_false, Bool.not_true, Bool.not_false, Bool.false_eq_true, reduceCtorEq, bne_self_eq_false]

end Go.Proofs.Ytohniomkenkdmaa.Pure
