/- FnExactReceiveRequest: the pure statement: the functions that the law computes answer true. Conditions: none. -/
import Derived.Test.YtohniomkenkdmaaOFnExactReceiveRequest
import Derived.Test.YtohniomkenkdmaaPL
namespace Go.Proofs.Ytohniomkenkdmaa.Pure
open Go Go.RowKit Go.Proofs.Ytohniomkenkdmaa.XFnExactReceiveRequest Go.Proofs.YtohniomkenkdmaaW.PrintWords Go.Proofs.YtohniomkenkdmaaW.PrintLast Go.Proofs.YtohniomkenkdmaaW.PrintMore Go.Proofs.Ytohniomkenkdmaa.Open Go.Proofs.Ytohniomkenkdmaa.OFnExactReceiveRequest Go.Proofs.Ytohniomkenkdmaa.PL
set_option linter.unusedVariables false
set_option linter.unusedSimpArgs false
theorem szTransitionKey (xs : List S150) (a : Int) (ha : 0 ≤ a ∧ a ≤ 1048576) (hm : xs.length ≤ maxLen) : ∃ t, laws_szTransitionKeyS.f xs a = some t ∧ t ≤ 1048576 ∧ (0 ≤ t → (xs.length : Int) ≤ a) := by
  unfold maxLen at hm
  unfold laws_szTransitionKeyS.f
  rw [wrap_id (by omega) (by omega)]
  split
  · exact ⟨_, rfl, by omega, fun h => absurd h (by omega)⟩
  · exact ⟨_, rfl, by omega, fun h => by omega⟩
theorem rd150 {xs : List S150} {i : Nat} (h : i < xs.length) : rd_T150 xs (i : Int) = xs[i] := getD_nat h
theorem rdset150 {xs : List S150} {v : S150} {i : Nat} (h : i < xs.length) : rd_T150 (xs.set i v) (i : Int) = v := getD_set h
theorem rdrange150 {n : Nat} {g : Nat → S150} {i : Nat} (h : i < n) : rd_T150 ((List.range n).map g) (i : Int) = g i := getD_range h
theorem rd62 {xs : List S62} {i : Nat} (h : i < xs.length) : rd_T62 xs (i : Int) = xs[i] := getD_nat h
theorem rdset62 {xs : List S62} {v : S62} {i : Nat} (h : i < xs.length) : rd_T62 (xs.set i v) (i : Int) = v := getD_set h
theorem rdrange62 {n : Nat} {g : Nat → S62} {i : Nat} (h : i < n) : rd_T62 ((List.range n).map g) (i : Int) = g i := getD_range h
def cvTransitionKey (x : S150) : S62 := ⟨x.f0, x.f1, x.f2⟩
theorem toTransitionKeyS (xs : List S150) (hl : xs.length ≤ 1048576) : Ev (fun k => laws_toTransitionKeyS.f k xs) (xs.map cvTransitionKey) := by
  refine ev_congr (g' := fun k => laws_toTransitionKeyS.l0 k xs (List.replicate xs.length z62) 0) (fun k => ?_) ?_
  · unfold laws_toTransitionKeyS.f
    rw [if_pos (by omega), if_pos (by omega), Int.toNat_natCast]
  · refine loopMap xs cvTransitionKey z62 (fun k ys i => laws_toTransitionKeyS.l0 k xs ys i) 0 ?_ ?_
    · intro i h ys k _ hy
      simp only [laws_toTransitionKeyS.l0, laws_toTransitionKey.f, Option.bind_some]
      rw [if_pos (by omega), if_pos (by omega), if_pos (by omega), rd150 h, wrap_succ (by omega), Int.toNat_natCast]
      rfl
    · intro ys k _
      simp only [laws_toTransitionKeyS.l0]
      rw [if_neg (by omega)]
theorem eqTransitionKeyS (xs : List S62) (hl : xs.length ≤ 4194304) : Ev (fun k => laws_eqTransitionKeyS.f k xs xs) true := by
  refine ev_congr (g' := fun k => laws_eqTransitionKeyS.l0 k xs xs 0) (fun k => ?_) ?_
  · unfold laws_eqTransitionKeyS.f
    rw [if_pos rfl]
  · refine run_loop 1 (fun k i => laws_eqTransitionKeyS.l0 k xs xs (i : Int)) xs.length true 0 ?_ ?_
    · intro i h k _
      simp only [laws_eqTransitionKeyS.l0, laws_eqTransitionKey.f, if_true, Option.bind_some]
      rw [if_pos (by omega), if_pos (by omega), if_pos (by omega), wrap_succ (by omega)]
    · intro k _
      simp only [laws_eqTransitionKeyS.l0]
      rw [if_neg (by omega)]
theorem implIn (a b c : Int) : impl_InRange.f a b c = some (decide (b ≤ a ∧ a ≤ c)) := by
  unfold impl_InRange.f
  by_cases h : b ≤ a <;> simp [h]

theorem implMod (a : Int) : impl_Mod.f a 2147483647 = some (a % 2147483647) := by
  unfold impl_Mod.f
  rw [implIn, Option.bind_some, if_pos (by decide), if_neg (by decide)]
  have h := tmodM a 2147483647 (by decide)
  have h1 := Int.lt_tmod_of_pos a (show (0 : Int) < 2147483647 by decide)
  by_cases h0 : Int.tmod a 2147483647 < 0
  · rw [if_pos h0] at h ⊢; rw [wrap_id (by omega) (by omega), h]
  · rw [if_neg h0] at h ⊢; rw [h]
/-- One step of the hash. -/
def hst (acc v : Int) : Int := (acc * 1000003 + v % 2147483647 + 13) % 2147483647
theorem hst_range (a v : Int) : 0 ≤ hst a v ∧ hst a v < 2147483647 := by unfold hst; omega
theorem implHash (xs : List Int) (hl : xs.length ≤ 4194304) : Ev (fun k => impl_Hash.f k xs) (xs.foldl hst 11) := by
  refine loopF 1 xs hst (fun s => s) (fun k s i => impl_Hash.l0 k s xs (xs.length : Int) i) 0 (fun _ s => 0 ≤ s ∧ s < 2147483647) ?_ ?_ 11 (by omega)
  · intro i h s k _ hs
    refine ⟨?_, hst_range _ _⟩
    simp only [impl_Hash.l0, implMod, Option.bind_some]
    rw [if_pos (by omega), if_pos (by omega), if_pos (by omega), rd_nat h, wrap_succ (by omega), wrap_id (n := s * 1000003) (by omega) (by omega), wrap_id (n := s * 1000003 + xs[i] % 2147483647) (by omega) (by omega), wrap_id (n := s * 1000003 + xs[i] % 2147483647 + 13) (by omega) (by omega), Int.tmod_eq_emod_of_nonneg (by omega)]
    rfl
  · intro s k _ _
    simp only [impl_Hash.l0]
    rw [if_neg (by omega)]
/-- The keyed hash. -/
def kh (key : Int) (l : List Int) : Int := ([key] ++ l ++ [key]).foldl hst 11
theorem kh_range (key : Int) (l : List Int) : 0 ≤ kh key l ∧ kh key l < 2147483647 := by
  unfold kh; rw [List.foldl_append]; exact hst_range _ _
theorem implKH (key : Int) (l : List Int) (hl : l.length ≤ 1048576) : Ev (fun k => impl_KeyedHash.f k key l) (kh key l) := by
  obtain ⟨K, hK⟩ := implHash ([key] ++ l ++ [key]) (by simp; omega)
  dsimp only at hK
  refine ⟨K, fun k hk => ?_⟩
  have h := hK k hk
  show impl_KeyedHash.f k key l = _
  unfold impl_KeyedHash.f
  rw [wrap_id (by omega) (by omega), if_pos (by omega), if_pos (by omega), Option.bind_some, if_pos (by simp), Option.bind_some, if_pos (by simp; omega), Option.bind_some, if_pos (by simp; omega)]
  simp only [List.nil_append]
  rw [h]; rfl
def koo (h : Int) : Int := if h = 0 then 1 else h
theorem implKoo (h : Int) : impl_keyOrOne.f h = some (koo h) := by
  unfold impl_keyOrOne.f koo; split <;> rfl
theorem specIn (a b c : Int) : spec_l1In.f a b c = some (decide (b ≤ a ∧ a ≤ c)) := by
  unfold spec_l1In.f
  by_cases h : b ≤ a <;> simp [h]

theorem specMod (a : Int) : spec_Mod.f a 2147483647 = some (a % 2147483647) := by
  unfold spec_Mod.f
  simp only [specIn, Option.bind_some]
  rw [if_pos (by decide)]
  have h := tmodM a 2147483647 (by decide)
  have h1 := Int.lt_tmod_of_pos a (show (0 : Int) < 2147483647 by decide)
  have h2 := Int.tmod_lt_of_pos a (show (0 : Int) < 2147483647 by decide)
  simp only [show ¬ ((2147483647 : Int) = 0) from by decide, if_false]
  rw [wrap_id (by omega) (by omega), Int.tmod_eq_emod_of_nonneg (by omega)]
  congr 1
  split at h <;> omega
theorem specHash (xs : List Int) (hl : xs.length ≤ 4194304) : Ev (fun k => spec_Hash.f k xs) (xs.foldl hst 11) := by
  refine loopF 1 xs hst (fun s => s) (fun k s i => spec_Hash.l0 k xs s i) 0 (fun _ s => 0 ≤ s ∧ s < 2147483647) ?_ ?_ 11 (by omega)
  · intro i h s k _ hs
    refine ⟨?_, hst_range _ _⟩
    simp only [spec_Hash.l0, specMod, Option.bind_some]
    rw [if_pos (by omega), if_pos (by omega), rd_nat h, wrap_succ (by omega), wrap_id (n := s * 1000003) (by omega) (by omega), wrap_id (n := s * 1000003 + xs[i] % 2147483647) (by omega) (by omega), wrap_id (n := s * 1000003 + xs[i] % 2147483647 + 13) (by omega) (by omega), Int.tmod_eq_emod_of_nonneg (by omega)]
    rfl
  · intro s k _ _
    simp only [spec_Hash.l0]
    rw [if_neg (by omega)]
theorem specKH (key : Int) (l : List Int) (hl : l.length ≤ 1048576) : Ev (fun k => spec_KeyedHash.f k key l) (kh key l) := by
  obtain ⟨K, hK⟩ := specHash ([key] ++ l ++ [key]) (by simp; omega)
  dsimp only at hK
  refine ⟨K, fun k hk => ?_⟩
  have h := hK k hk
  show spec_KeyedHash.f k key l = _
  unfold spec_KeyedHash.f
  simp only [Option.bind_some, List.length_append, List.length_cons, List.length_nil]
  rw [if_pos (by omega)]
  try rw [if_pos (by omega)]
  rw [h]; rfl

theorem specMax1 (h : Int) (h0 : 0 ≤ h) : spec_Max.f 1 h = some (koo h) := by
  unfold spec_Max.f koo
  by_cases e : h = 0
  · subst e; rfl
  · by_cases e1 : h = 1
    · subst e1; rfl
    · rw [if_pos (by omega), if_neg e]

def rr (st from_ to_ nonce mac self n key : Int) : Int × Int × Int × Int × Int × Int × Bool :=
  if to_ = self ∧ mac = kh key [57, st, from_, to_, nonce] then (st, to_, n, nonce, kh key [59, st, to_, n, nonce], koo (kh key [61, nonce, n]), true) else (0, 0, 0, 0, 0, 0, false)
def rrStep (st from_ to_ nonce mac self n : Int) (_ : Nat) (_ : Unit) (x : S62) : Unit ⊕ (Int × Int × Int × Int × Int × Int × Bool) :=
  if x.f0 = self ∧ x.f1 = st then .inr (rr st from_ to_ nonce mac self n x.f2) else .inl ()
def rrf (xs : List S62) (self st from_ to_ nonce mac n : Int) := foldE (rrStep st from_ to_ nonce mac self n) (fun _ => (0, 0, 0, 0, 0, 0, false)) xs 0 ()
theorem implRR (xs : List S62) (self st from_ to_ nonce mac n : Int) (hl : xs.length ≤ 1048576) : Ev (fun k => impl_ReceiveRequest.f k xs self st from_ to_ nonce mac n) (rrf xs self st from_ to_ nonce mac n) := by
  obtain ⟨K1, e1⟩ := ev_all xs (fun x k => impl_KeyedHash.f k x.f2 [57, st, from_, to_, nonce]) _ (fun x _ => implKH x.f2 [57, st, from_, to_, nonce] (by simp))
  obtain ⟨K2, e2⟩ := ev_all xs (fun x k => impl_KeyedHash.f k x.f2 [59, st, to_, n, nonce]) _ (fun x _ => implKH x.f2 [59, st, to_, n, nonce] (by simp))
  obtain ⟨K3, e3⟩ := ev_all xs (fun x k => impl_KeyedHash.f k x.f2 [61, nonce, n]) _ (fun x _ => implKH x.f2 [61, nonce, n] (by simp))
  refine loopE 2 xs (rrStep st from_ to_ nonce mac self n) (fun _ => (0, 0, 0, 0, 0, 0, false)) (fun k _ i => impl_ReceiveRequest.l0 k self n xs (xs.length : Int) i st from_ to_ nonce mac) (K1 + K2 + K3 + 1) (fun _ _ => True) ?_ ?_ ?_ () trivial
  · intro i h s s' k _ _ hs
    unfold rrStep at hs
    split at hs
    · cases hs
    · rename_i hc
      refine ⟨?_, trivial⟩
      simp only [impl_ReceiveRequest.l0, impl_ReceiveRequest.j1]
      rw [if_pos (by omega), if_pos (by omega), if_pos (by omega), rd62 h, wrap_succ (by omega)]
      by_cases c0 : xs[i].f0 = self
      · have c1 : ¬ xs[i].f1 = st := fun h => hc ⟨c0, h⟩
        simp only [c0, if_true, bne_iff_ne, ne_eq, c1, not_false_eq_true]
      · simp only [c0, if_true, if_false]
  · intro i h s r k hk _ hs
    obtain ⟨k, rfl⟩ : ∃ q, k = q + 1 := ⟨k - 1, by omega⟩
    unfold rrStep at hs
    split at hs
    · rename_i hc
      cases hs
      have a1 := e1 _ (List.getElem_mem h) (k + 1) (by omega)
      have a2 := e2 _ (List.getElem_mem h) k (by omega)
      have a3 := e3 _ (List.getElem_mem h) k (by omega)
      simp only [impl_ReceiveRequest.l0, impl_ReceiveRequest.j1, impl_ReceiveRequest.j2, impl_requestMac.f, impl_replyMac.f, impl_SessionKeyOf.f]
      rw [if_pos (by omega), if_pos (by omega), if_pos (by omega), rd62 h]
      unfold rr
      by_cases c0 : to_ = self <;> by_cases c1 : mac = kh xs[i].f2 [57, st, from_, to_, nonce] <;> simp only [hc.1, hc.2, c0, a1, a2, a3, implKoo, Option.bind_some, bne_self_eq_false, Bool.false_eq_true, if_true, if_false, and_self, and_true, and_false, true_and, false_and, bne_iff_ne, ne_eq, not_true_eq_false, not_false_eq_true] <;> (try subst c0) <;> simp_all
    · cases hs
  · intro s k _ _
    simp only [impl_ReceiveRequest.l0]
    rw [if_neg (by omega)]
theorem specRR (xs : List S62) (self st from_ to_ nonce mac n : Int) (hl : xs.length ≤ 1048576) : Ev (fun k => spec_ReceiveRequest.f k xs self st from_ to_ nonce mac n) (rrf xs self st from_ to_ nonce mac n) := by
  obtain ⟨K1, e1⟩ := ev_all xs (fun x k => spec_KeyedHash.f k x.f2 [57, st, from_, to_, nonce]) _ (fun x _ => specKH x.f2 [57, st, from_, to_, nonce] (by simp))
  obtain ⟨K2, e2⟩ := ev_all xs (fun x k => spec_KeyedHash.f k x.f2 [59, st, to_, n, nonce]) _ (fun x _ => specKH x.f2 [59, st, to_, n, nonce] (by simp))
  obtain ⟨K3, e3⟩ := ev_all xs (fun x k => spec_KeyedHash.f k x.f2 [61, nonce, n]) _ (fun x _ => specKH x.f2 [61, nonce, n] (by simp))
  refine loopE 2 xs (rrStep st from_ to_ nonce mac self n) (fun _ => (0, 0, 0, 0, 0, 0, false)) (fun k _ i => spec_ReceiveRequest.l0 k xs self n i st from_ to_ nonce mac) (K1 + K2 + K3 + 2) (fun _ _ => True) ?_ ?_ ?_ () trivial
  · intro i h s s' k _ _ hs
    unfold rrStep at hs
    split at hs
    · cases hs
    · rename_i hc
      refine ⟨?_, trivial⟩
      simp only [spec_ReceiveRequest.l0, spec_ReceiveRequest.j1]
      rw [if_pos (by omega), if_pos (by omega), rd62 h, wrap_succ (by omega)]
      by_cases c0 : xs[i].f0 = self
      · have c1 : ¬ xs[i].f1 = st := fun h => hc ⟨c0, h⟩
        simp only [c0, if_true, bne_iff_ne, ne_eq, c1, not_false_eq_true]
      · simp only [c0, if_true, if_false]
  · intro i h s r k hk _ hs
    obtain ⟨k, rfl⟩ : ∃ q, k = q + 2 := ⟨k - 2, by omega⟩
    unfold rrStep at hs
    split at hs
    · rename_i hc
      cases hs
      have a1 := e1 _ (List.getElem_mem h) (k + 2) (by omega)
      have a1' := e1 _ (List.getElem_mem h) (k + 1) (by omega)
      have a2 := e2 _ (List.getElem_mem h) k (by omega)
      have a2' := e2 _ (List.getElem_mem h) (k + 1) (by omega)
      have a3 := e3 _ (List.getElem_mem h) k (by omega)
      have a3' := e3 _ (List.getElem_mem h) (k + 1) (by omega)
      have m1 := specMax1 _ (kh_range (xs[i].f2) [61, nonce, n]).1
      rw [spec_ReceiveRequest.l0, if_pos (by omega), if_pos (by omega), rd62 h, if_pos hc.1, spec_ReceiveRequest.j1, if_neg (by simp [hc.2]), if_pos (by omega), if_pos (by omega), rd62 h]
      simp only [spec_ReceiveRequest.j2, spec_l33Request.f, spec_l33Reply.f, spec_SessionKeyOf.f]
      unfold rr
      by_cases c0 : to_ = self <;> by_cases c1 : mac = kh xs[i].f2 [57, st, from_, to_, nonce] <;> simp only [hc.1, hc.2, c0, a1, a2, a3, a1', a2', a3', m1, Option.bind_some, bne_self_eq_false, Bool.false_eq_true, if_true, if_false, and_self, and_true, and_false, true_and, false_and, bne_iff_ne, ne_eq, not_true_eq_false, not_false_eq_true] <;> (try subst c0) <;> simp_all
    · cases hs
  · intro s k _ _
    simp only [spec_ReceiveRequest.l0]
    rw [if_neg (by omega)]

theorem FnExactReceiveRequest : OFnExactReceiveRequest.Pure := by
  intro l self r0 r1 r2 r3 r4 n ⟨hm, _⟩ _ _ _ _ _ _ _
  obtain ⟨t, hz, _, hl⟩ := szTransitionKey l 1048576 (by omega) hm
  by_cases hneg : t < 0
  · exact ⟨0, by unfold laws_FnExactReceiveRequest.f; rw [hz, Option.bind_some, if_pos hneg]⟩
  have hl : l.length ≤ 1048576 := by have := hl (by omega); omega
  obtain ⟨X, hX⟩ : ∃ X, X = l.map cvTransitionKey := ⟨_, rfl⟩
  have hXl : X.length ≤ 1048576 := by rw [hX]; simpa using hl
  obtain ⟨K1, e1⟩ := toTransitionKeyS l hl
  rw [← hX] at e1
  obtain ⟨K2, e2⟩ := implRR X self r0 r1 r2 r3 r4 n (by omega)
  obtain ⟨K3, e3⟩ := specRR X self r0 r1 r2 r3 r4 n (by omega)
  generalize rrf X self r0 r1 r2 r3 r4 n = W at e2 e3
  obtain ⟨K4, e4⟩ := eqTransitionKeyS X (by omega)
  refine ⟨K1 + K2 + K3 + K4 + 1, ?_⟩
  generalize hk : K1 + K2 + K3 + K4 = k
  have a1_0 := e1 (k) (by omega)
  have a1_1 := e1 (k + 1) (by omega)
  have a2_0 := e2 (k) (by omega)
  have a2_1 := e2 (k + 1) (by omega)
  have a3_0 := e3 (k) (by omega)
  have a3_1 := e3 (k + 1) (by omega)
  have a4_0 := e4 (k) (by omega)
  have a4_1 := e4 (k + 1) (by omega)
  simp only [laws_FnExactReceiveRequest.f, laws_FnExactReceiveRequest.j0, laws_toTransitionRequest.f, laws_eqTransitionReply.f, a1_0, a1_1, a2_0, a2_1, a3_0, a3_1, a4_0, a4_1, hz, hneg, Option.bind_some, if_true, if_false, Bool.not_true, Bool.not_false, Bool.false_eq_true, reduceCtorEq, bne_self_eq_false]

end Go.Proofs.Ytohniomkenkdmaa.Pure
