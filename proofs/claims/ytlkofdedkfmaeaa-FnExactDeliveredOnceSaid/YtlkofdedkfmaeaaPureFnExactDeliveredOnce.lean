/- FnExactDeliveredOnce: the pure statement: the functions that the law computes answer true. Conditions: none. -/
import Derived.Test.YtlkofdedkfmaeaaOFnExactDeliveredOnce
import Derived.Test.YtlkofdedkfmaeaaPL
namespace Go.Proofs.Ytlkofdedkfmaeaa.Pure
open Go Go.RowKit Go.Proofs.Ytlkofdedkfmaeaa.XFnExactDeliveredOnce Go.Proofs.YtlkofdedkfmaeaaW.PrintWords Go.Proofs.YtlkofdedkfmaeaaW.PrintLast Go.Proofs.YtlkofdedkfmaeaaW.PrintMore Go.Proofs.Ytlkofdedkfmaeaa.Open Go.Proofs.Ytlkofdedkfmaeaa.OFnExactDeliveredOnce Go.Proofs.Ytlkofdedkfmaeaa.PL
set_option linter.unusedVariables false
set_option linter.unusedSimpArgs false
theorem rd200 {xs : List S200} {i : Nat} (h : i < xs.length) : rd_T200 xs (i : Int) = xs[i] := getD_nat h
theorem rdset200 {xs : List S200} {v : S200} {i : Nat} (h : i < xs.length) : rd_T200 (xs.set i v) (i : Int) = v := getD_set h
theorem rdrange200 {n : Nat} {g : Nat → S200} {i : Nat} (h : i < n) : rd_T200 ((List.range n).map g) (i : Int) = g i := getD_range h
theorem rd128 {xs : List S128} {i : Nat} (h : i < xs.length) : rd_T128 xs (i : Int) = xs[i] := getD_nat h
theorem rdset128 {xs : List S128} {v : S128} {i : Nat} (h : i < xs.length) : rd_T128 (xs.set i v) (i : Int) = v := getD_set h
theorem rdrange128 {n : Nat} {g : Nat → S128} {i : Nat} (h : i < n) : rd_T128 ((List.range n).map g) (i : Int) = g i := getD_range h
theorem rd187 {xs : List S187} {i : Nat} (h : i < xs.length) : rd_T187 xs (i : Int) = xs[i] := getD_nat h
theorem rdset187 {xs : List S187} {v : S187} {i : Nat} (h : i < xs.length) : rd_T187 (xs.set i v) (i : Int) = v := getD_set h
theorem rdrange187 {n : Nat} {g : Nat → S187} {i : Nat} (h : i < n) : rd_T187 ((List.range n).map g) (i : Int) = g i := getD_range h
theorem rd182 {xs : List S182} {i : Nat} (h : i < xs.length) : rd_T182 xs (i : Int) = xs[i] := getD_nat h
theorem rdset182 {xs : List S182} {v : S182} {i : Nat} (h : i < xs.length) : rd_T182 (xs.set i v) (i : Int) = v := getD_set h
theorem rdrange182 {n : Nat} {g : Nat → S182} {i : Nat} (h : i < n) : rd_T182 ((List.range n).map g) (i : Int) = g i := getD_range h
theorem rd136 {xs : List S136} {i : Nat} (h : i < xs.length) : rd_T136 xs (i : Int) = xs[i] := getD_nat h
theorem rdset136 {xs : List S136} {v : S136} {i : Nat} (h : i < xs.length) : rd_T136 (xs.set i v) (i : Int) = v := getD_set h
theorem rdrange136 {n : Nat} {g : Nat → S136} {i : Nat} (h : i < n) : rd_T136 ((List.range n).map g) (i : Int) = g i := getD_range h
theorem rd173 {xs : List S173} {i : Nat} (h : i < xs.length) : rd_T173 xs (i : Int) = xs[i] := getD_nat h
theorem rdset173 {xs : List S173} {v : S173} {i : Nat} (h : i < xs.length) : rd_T173 (xs.set i v) (i : Int) = v := getD_set h
theorem rdrange173 {n : Nat} {g : Nat → S173} {i : Nat} (h : i < n) : rd_T173 ((List.range n).map g) (i : Int) = g i := getD_range h
theorem rd88 {xs : List S88} {i : Nat} (h : i < xs.length) : rd_T88 xs (i : Int) = xs[i] := getD_nat h
theorem rdset88 {xs : List S88} {v : S88} {i : Nat} (h : i < xs.length) : rd_T88 (xs.set i v) (i : Int) = v := getD_set h
theorem rdrange88 {n : Nat} {g : Nat → S88} {i : Nat} (h : i < n) : rd_T88 ((List.range n).map g) (i : Int) = g i := getD_range h
theorem rd102 {xs : List S102} {i : Nat} (h : i < xs.length) : rd_T102 xs (i : Int) = xs[i] := getD_nat h
theorem rdset102 {xs : List S102} {v : S102} {i : Nat} (h : i < xs.length) : rd_T102 (xs.set i v) (i : Int) = v := getD_set h
theorem rdrange102 {n : Nat} {g : Nat → S102} {i : Nat} (h : i < n) : rd_T102 ((List.range n).map g) (i : Int) = g i := getD_range h
theorem rd97 {xs : List S97} {i : Nat} (h : i < xs.length) : rd_T97 xs (i : Int) = xs[i] := getD_nat h
theorem rdset97 {xs : List S97} {v : S97} {i : Nat} (h : i < xs.length) : rd_T97 (xs.set i v) (i : Int) = v := getD_set h
theorem rdrange97 {n : Nat} {g : Nat → S97} {i : Nat} (h : i < n) : rd_T97 ((List.range n).map g) (i : Int) = g i := getD_range h
theorem toByteS (xs : List Int) (hl : xs.length ≤ 1048576) : Ev (fun k => laws_toByteS.f k xs) xs := by
  have h := loopMap xs (fun x => x) 0 (fun k ys i => laws_toByteS.l0 k xs ys i) 0 ?_ ?_
  · rw [List.map_id'] at h
    refine ev_congr (fun k => ?_) h
    unfold laws_toByteS.f
    rw [if_pos (by omega), if_pos (by omega), Int.toNat_natCast]
  · intro i h ys k _ hy
    simp only [laws_toByteS.l0]
    rw [if_pos (by omega), if_pos (by omega), if_pos (by omega), rd_nat h, wrap_succ (by omega), Int.toNat_natCast]
  · intro ys k _
    simp only [laws_toByteS.l0]
    rw [if_neg (by omega)]
theorem eqByteS (xs : List Int) (hl : xs.length ≤ 4194304) : Ev (fun k => laws_eqByteS.f k xs xs) true := by
  refine ev_congr (g' := fun k => laws_eqByteS.l0 k xs xs 0) (fun k => ?_) ?_
  · unfold laws_eqByteS.f
    rw [if_pos rfl]
  · refine run_loop 1 (fun k i => laws_eqByteS.l0 k xs xs (i : Int)) xs.length true 0 ?_ ?_
    · intro i h k _
      simp only [laws_eqByteS.l0, if_true]
      rw [if_pos (by omega), if_pos (by omega), if_pos (by omega), wrap_succ (by omega)]
    · intro k _
      simp only [laws_eqByteS.l0]
      rw [if_neg (by omega)]
theorem szByteS (xs : List Int) (a : Int) (ha : 0 ≤ a ∧ a ≤ 1048576) (hm : xs.length ≤ maxLen) : ∃ t, laws_szByteS.f xs a = some t ∧ t ≤ 1048576 ∧ (0 ≤ t → (xs.length : Int) ≤ a) := by
  unfold maxLen at hm
  unfold laws_szByteS.f
  rw [wrap_id (by omega) (by omega)]
  split
  · exact ⟨_, rfl, by omega, fun h => absurd h (by omega)⟩
  · exact ⟨_, rfl, by omega, fun h => by omega⟩
theorem rd141 {xs : List S141} {i : Nat} (h : i < xs.length) : rd_T141 xs (i : Int) = xs[i] := getD_nat h
theorem rdset141 {xs : List S141} {v : S141} {i : Nat} (h : i < xs.length) : rd_T141 (xs.set i v) (i : Int) = v := getD_set h
theorem rdrange141 {n : Nat} {g : Nat → S141} {i : Nat} (h : i < n) : rd_T141 ((List.range n).map g) (i : Int) = g i := getD_range h
def cvSeenFrame (x : S187) : S141 := ⟨x.f0, x.f1, x.f2, x.f3⟩
theorem toSeenFrameS (xs : List S187) (hl : xs.length ≤ 1048576) : Ev (fun k => laws_toSeenFrameS.f k xs) (xs.map cvSeenFrame) := by
  refine ev_congr (g' := fun k => laws_toSeenFrameS.l0 k xs (List.replicate xs.length z141) 0) (fun k => ?_) ?_
  · unfold laws_toSeenFrameS.f
    rw [if_pos (by omega), if_pos (by omega), Int.toNat_natCast]
  · refine loopMap xs cvSeenFrame z141 (fun k ys i => laws_toSeenFrameS.l0 k xs ys i) 0 ?_ ?_
    · intro i h ys k _ hy
      simp only [laws_toSeenFrameS.l0, laws_toSeenFrame.f, Option.bind_some]
      rw [if_pos (by omega), if_pos (by omega), if_pos (by omega), rd187 h, wrap_succ (by omega), Int.toNat_natCast]
      rfl
    · intro ys k _
      simp only [laws_toSeenFrameS.l0]
      rw [if_neg (by omega)]
theorem eqSeenFrameS (xs : List S141) (hl : xs.length ≤ 4194304) : Ev (fun k => laws_eqSeenFrameS.f k xs xs) true := by
  refine ev_congr (g' := fun k => laws_eqSeenFrameS.l0 k xs xs 0) (fun k => ?_) ?_
  · unfold laws_eqSeenFrameS.f
    rw [if_pos rfl]
  · refine run_loop 1 (fun k i => laws_eqSeenFrameS.l0 k xs xs (i : Int)) xs.length true 0 ?_ ?_
    · intro i h k _
      simp only [laws_eqSeenFrameS.l0, laws_eqSeenFrame.f, if_true, Option.bind_some]
      rw [if_pos (by omega), if_pos (by omega), if_pos (by omega), wrap_succ (by omega)]
    · intro k _
      simp only [laws_eqSeenFrameS.l0]
      rw [if_neg (by omega)]
def cvMessage (x : S200) : S173 := ⟨x.f0, x.f1, x.f2, x.f3⟩
theorem toMessageS (xs : List S200) (hl : xs.length ≤ 1048576) (hb : ∀ y ∈ xs, y.f3.length ≤ 1048576) : Ev (fun k => laws_toMessageS.f k xs) (xs.map cvMessage) := by
  obtain ⟨K, e⟩ := ev_all xs (fun x k => laws_toByteS.f k x.f3) (fun x => x.f3) (fun x hx => toByteS x.f3 (hb x hx))
  refine ev_congr (g' := fun k => laws_toMessageS.l0 k xs (List.replicate xs.length z173) 0) (fun k => ?_) ?_
  · unfold laws_toMessageS.f
    rw [if_pos (by omega), if_pos (by omega), Int.toNat_natCast]
  · refine loopMap xs cvMessage z173 (fun k ys i => laws_toMessageS.l0 k xs ys i) K ?_ ?_
    · intro i h ys k hk hy
      have e' := e _ (List.getElem_mem h) k hk
      try dsimp only at e'
      simp only [laws_toMessageS.l0, laws_toMessage.f]
      rw [if_pos (by omega), if_pos (by omega), rd200 h, e', Option.bind_some, Option.bind_some, if_pos (by omega), wrap_succ (by omega), Int.toNat_natCast]
      rfl
    · intro ys k _
      simp only [laws_toMessageS.l0]
      rw [if_neg (by omega)]
theorem eqMessageS (xs : List S173) (hl : xs.length ≤ 1048576) (hb : ∀ y ∈ xs, y.f3.length ≤ 1048576) : Ev (fun k => laws_eqMessageS.f k xs xs) true := by
  obtain ⟨K, e⟩ := ev_all xs (fun x k => laws_eqByteS.f k x.f3 x.f3) (fun _ => true) (fun x hx => eqByteS x.f3 (by have := hb x hx; omega))
  refine ev_congr (g' := fun k => laws_eqMessageS.l0 k xs xs 0) (fun k => ?_) ?_
  · unfold laws_eqMessageS.f
    rw [if_pos rfl]
  · refine run_loop 1 (fun k i => laws_eqMessageS.l0 k xs xs (i : Int)) xs.length true K ?_ ?_
    · intro i h k hk
      have e' := e _ (List.getElem_mem h) k hk
      try dsimp only at e'
      simp only [laws_eqMessageS.l0, laws_eqMessage.f, rd173 h, e', Option.bind_some, if_true, bne_self_eq_false, Bool.false_eq_true, if_false]
      rw [if_pos (by omega), if_pos (by omega), if_pos (by omega), wrap_succ (by omega)]
    · intro k _
      simp only [laws_eqMessageS.l0]
      rw [if_neg (by omega)]
def cvAirFrame (x : S128) : S88 := ⟨x.f0, x.f1, x.f2, x.f3, x.f4⟩
theorem toAirFrameS (xs : List S128) (hl : xs.length ≤ 1048576) (hb : ∀ y ∈ xs, y.f3.length ≤ 1048576) : Ev (fun k => laws_toAirFrameS.f k xs) (xs.map cvAirFrame) := by
  obtain ⟨K, e⟩ := ev_all xs (fun x k => laws_toByteS.f k x.f3) (fun x => x.f3) (fun x hx => toByteS x.f3 (hb x hx))
  refine ev_congr (g' := fun k => laws_toAirFrameS.l0 k xs (List.replicate xs.length z88) 0) (fun k => ?_) ?_
  · unfold laws_toAirFrameS.f
    rw [if_pos (by omega), if_pos (by omega), Int.toNat_natCast]
  · refine loopMap xs cvAirFrame z88 (fun k ys i => laws_toAirFrameS.l0 k xs ys i) K ?_ ?_
    · intro i h ys k hk hy
      have e' := e _ (List.getElem_mem h) k hk
      try dsimp only at e'
      simp only [laws_toAirFrameS.l0, laws_toAirFrame.f]
      rw [if_pos (by omega), if_pos (by omega), rd128 h, e', Option.bind_some, Option.bind_some, if_pos (by omega), wrap_succ (by omega), Int.toNat_natCast]
      rfl
    · intro ys k _
      simp only [laws_toAirFrameS.l0]
      rw [if_neg (by omega)]
theorem eqAirFrameS (xs : List S88) (hl : xs.length ≤ 1048576) (hb : ∀ y ∈ xs, y.f3.length ≤ 1048576) : Ev (fun k => laws_eqAirFrameS.f k xs xs) true := by
  obtain ⟨K, e⟩ := ev_all xs (fun x k => laws_eqByteS.f k x.f3 x.f3) (fun _ => true) (fun x hx => eqByteS x.f3 (by have := hb x hx; omega))
  refine ev_congr (g' := fun k => laws_eqAirFrameS.l0 k xs xs 0) (fun k => ?_) ?_
  · unfold laws_eqAirFrameS.f
    rw [if_pos rfl]
  · refine run_loop 1 (fun k i => laws_eqAirFrameS.l0 k xs xs (i : Int)) xs.length true K ?_ ?_
    · intro i h k hk
      have e' := e _ (List.getElem_mem h) k hk
      try dsimp only at e'
      simp only [laws_eqAirFrameS.l0, laws_eqAirFrame.f, rd88 h, e', Option.bind_some, if_true, bne_self_eq_false, Bool.false_eq_true, if_false]
      rw [if_pos (by omega), if_pos (by omega), if_pos (by omega), wrap_succ (by omega)]
    · intro k _
      simp only [laws_eqAirFrameS.l0]
      rw [if_neg (by omega)]
def cvDelivery (x : S182) : S102 := ⟨x.f0, x.f1, x.f2, x.f3⟩
theorem toDeliveryS (xs : List S182) (hl : xs.length ≤ 1048576) (hb : ∀ y ∈ xs, y.f3.length ≤ 1048576) : Ev (fun k => laws_toDeliveryS.f k xs) (xs.map cvDelivery) := by
  obtain ⟨K, e⟩ := ev_all xs (fun x k => laws_toByteS.f k x.f3) (fun x => x.f3) (fun x hx => toByteS x.f3 (hb x hx))
  refine ev_congr (g' := fun k => laws_toDeliveryS.l0 k xs (List.replicate xs.length z102) 0) (fun k => ?_) ?_
  · unfold laws_toDeliveryS.f
    rw [if_pos (by omega), if_pos (by omega), Int.toNat_natCast]
  · refine loopMap xs cvDelivery z102 (fun k ys i => laws_toDeliveryS.l0 k xs ys i) K ?_ ?_
    · intro i h ys k hk hy
      have e' := e _ (List.getElem_mem h) k hk
      try dsimp only at e'
      simp only [laws_toDeliveryS.l0, laws_toDelivery.f]
      rw [if_pos (by omega), if_pos (by omega), rd182 h, e', Option.bind_some, Option.bind_some, if_pos (by omega), wrap_succ (by omega), Int.toNat_natCast]
      rfl
    · intro ys k _
      simp only [laws_toDeliveryS.l0]
      rw [if_neg (by omega)]
theorem eqDeliveryS (xs : List S102) (hl : xs.length ≤ 1048576) (hb : ∀ y ∈ xs, y.f3.length ≤ 1048576) : Ev (fun k => laws_eqDeliveryS.f k xs xs) true := by
  obtain ⟨K, e⟩ := ev_all xs (fun x k => laws_eqByteS.f k x.f3 x.f3) (fun _ => true) (fun x hx => eqByteS x.f3 (by have := hb x hx; omega))
  refine ev_congr (g' := fun k => laws_eqDeliveryS.l0 k xs xs 0) (fun k => ?_) ?_
  · unfold laws_eqDeliveryS.f
    rw [if_pos rfl]
  · refine run_loop 1 (fun k i => laws_eqDeliveryS.l0 k xs xs (i : Int)) xs.length true K ?_ ?_
    · intro i h k hk
      have e' := e _ (List.getElem_mem h) k hk
      try dsimp only at e'
      simp only [laws_eqDeliveryS.l0, laws_eqDelivery.f, rd102 h, e', Option.bind_some, if_true, bne_self_eq_false, Bool.false_eq_true, if_false]
      rw [if_pos (by omega), if_pos (by omega), if_pos (by omega), wrap_succ (by omega)]
    · intro k _
      simp only [laws_eqDeliveryS.l0]
      rw [if_neg (by omega)]
theorem toIntS (xs : List Int) (hl : xs.length ≤ 1048576) : Ev (fun k => laws_toIntS.f k xs) xs := by
  have h := loopMap xs (fun x => x) 0 (fun k ys i => laws_toIntS.l0 k xs ys i) 0 ?_ ?_
  · rw [List.map_id'] at h
    refine ev_congr (fun k => ?_) h
    unfold laws_toIntS.f
    rw [if_pos (by omega), if_pos (by omega), Int.toNat_natCast]
  · intro i h ys k _ hy
    simp only [laws_toIntS.l0]
    rw [if_pos (by omega), if_pos (by omega), if_pos (by omega), rd_nat h, wrap_succ (by omega), Int.toNat_natCast]
  · intro ys k _
    simp only [laws_toIntS.l0]
    rw [if_neg (by omega)]
theorem eqIntS (xs : List Int) (hl : xs.length ≤ 4194304) : Ev (fun k => laws_eqIntS.f k xs xs) true := by
  refine ev_congr (g' := fun k => laws_eqIntS.l0 k xs xs 0) (fun k => ?_) ?_
  · unfold laws_eqIntS.f
    rw [if_pos rfl]
  · refine run_loop 1 (fun k i => laws_eqIntS.l0 k xs xs (i : Int)) xs.length true 0 ?_ ?_
    · intro i h k _
      simp only [laws_eqIntS.l0, if_true]
      rw [if_pos (by omega), if_pos (by omega), if_pos (by omega), wrap_succ (by omega)]
    · intro k _
      simp only [laws_eqIntS.l0]
      rw [if_neg (by omega)]

abbrev M20 : Int := 1048576
/-- What is left of a limit behind n. -/
def szB (n : Nat) (a : Int) : Int := if a - (n : Int) < 0 then -1 else a - n
def szF {α : Type} (g : α → Int → Int) : List α → Int → Int
  | [], s => s
  | x :: xs, s => if g x s < 0 then -1 else szF g xs (g x s)
def szS {α : Type} (g : α → Int → Int) (l : List α) (a : Int) : Int := if a - (l.length : Int) < 0 then -1 else szF g l (a - l.length)
theorem szB_le (n : Nat) (a : Int) : szB n a ≤ max a (-1) ∧ (0 ≤ szB n a → (n : Int) ≤ a ∧ szB n a ≤ a) := by
  unfold szB; split <;> omega
theorem szF_le {α : Type} {g : α → Int → Int} {P : α → Prop} (hg : ∀ x s, 0 ≤ s → s ≤ M20 → 0 ≤ g x s → g x s ≤ s ∧ P x) : ∀ (l : List α) (s : Int), 0 ≤ s → s ≤ M20 → 0 ≤ szF g l s → szF g l s ≤ s ∧ ∀ x ∈ l, P x
  | [], s, _, _, _ => ⟨Int.le_refl _, by simp⟩
  | x :: xs, s, h0, h1, h2 => by
    unfold szF at h2 ⊢
    split at h2
    · omega
    · rename_i hn
      rw [if_neg hn]
      obtain ⟨q1, q2⟩ := hg x s h0 h1 (by omega)
      obtain ⟨r1, r2⟩ := szF_le hg xs (g x s) (by omega) (by omega) h2
      exact ⟨by omega, fun y hy => by
        rcases List.mem_cons.1 hy with rfl | hy
        · exact q2
        · exact r2 y hy⟩
theorem szS_le {α : Type} {g : α → Int → Int} {P : α → Prop} (hg : ∀ x s, 0 ≤ s → s ≤ M20 → 0 ≤ g x s → g x s ≤ s ∧ P x) (l : List α) (a : Int) (h1 : a ≤ M20) (h2 : 0 ≤ szS g l a) : szS g l a ≤ a ∧ l.length ≤ 1048576 ∧ ∀ x ∈ l, P x := by
  unfold szS at h2 ⊢
  split at h2
  · omega
  · rename_i hn
    rw [if_neg hn]
    obtain ⟨r1, r2⟩ := szF_le hg l (a - l.length) (by omega) (by unfold M20 at *; omega) h2
    exact ⟨by omega, by unfold M20 at *; omega, r2⟩
theorem loopSz {α : Type} (xs : List α) (g : α → Int → Int) (L : Nat → Int → Int → Option Int) (K : Nat) (hg : ∀ x ∈ xs, ∀ s, 0 ≤ s → s ≤ M20 → g x s ≤ M20)
    (hstep : ∀ i (h : i < xs.length) s k, K ≤ k → 0 ≤ s → s ≤ M20 → L (k + 1) s (i : Int) = if g xs[i] s < 0 then some (-1) else L k (g xs[i] s) ((i + 1 : Nat) : Int))
    (hstop : ∀ s k, K ≤ k → L (k + 1) s (xs.length : Int) = some s) (a : Int) (h0 : 0 ≤ a) (h1 : a ≤ M20) (k : Nat) (hk : K + xs.length + 1 ≤ k) : L k a 0 = some (szF g xs a) := by
  have key : ∀ d i s, i + d = xs.length → 0 ≤ s → s ≤ M20 → ∀ k, K + d + 1 ≤ k → L k s (i : Int) = some (szF g (xs.drop i) s) := by
    intro d
    induction d with
    | zero =>
      intro i s hi h0 h1 k hk
      obtain ⟨k, rfl⟩ : ∃ q, k = q + 1 := ⟨k - 1, by omega⟩
      obtain rfl : i = xs.length := by omega
      rw [hstop s k (by omega), List.drop_of_length_le (Nat.le_refl _)]; rfl
    | succ d ih =>
      intro i s hi h0 h1 k hk
      obtain ⟨k, rfl⟩ : ∃ q, k = q + 1 := ⟨k - 1, by omega⟩
      have hlt : i < xs.length := by omega
      rw [List.drop_eq_getElem_cons hlt, hstep i hlt s k (by omega) h0 h1]
      unfold szF
      by_cases hn : g xs[i] s < 0
      · rw [if_pos hn, if_pos hn]
      · rw [if_neg hn, if_neg hn]
        exact ih (i + 1) _ (by omega) (by omega) (hg _ (List.getElem_mem hlt) s h0 h1) k (by omega)
  have := key xs.length 0 a (by omega) h0 h1 k (by omega)
  simpa using this
theorem szBy (xs : List Int) (a : Int) (h0 : 0 ≤ a) (h1 : a ≤ M20) (hm : xs.length ≤ maxLen) : laws_szByteS.f xs a = some (szB xs.length a) := by
  unfold maxLen at hm; unfold M20 at h1
  unfold laws_szByteS.f szB
  rw [wrap_id (by omega) (by omega)]
  split <;> rfl
theorem szSeen (xs : List S187) (a : Int) (h0 : 0 ≤ a) (h1 : a ≤ M20) (hm : xs.length ≤ maxLen) : laws_szSeenFrameS.f xs a = some (szB xs.length a) := by
  unfold maxLen at hm; unfold M20 at h1
  unfold laws_szSeenFrameS.f szB
  rw [wrap_id (by omega) (by omega)]
  split <;> rfl
theorem szInt (xs : List Int) (a : Int) (h0 : 0 ≤ a) (h1 : a ≤ M20) (hm : xs.length ≤ maxLen) : laws_szIntS.f xs a = some (szB xs.length a) := by
  unfold maxLen at hm; unfold M20 at h1
  unfold laws_szIntS.f szB
  rw [wrap_id (by omega) (by omega)]
  split <;> rfl
theorem some_neg (t : Int) (h : -1 ≤ t) : (if t < 0 then some (-1) else some t) = some t := by
  split
  · congr 1; omega
  · rfl
theorem szB_ge (n : Nat) (a : Int) : -1 ≤ szB n a := by unfold szB; split <;> omega
theorem szF_ge {α : Type} {g : α → Int → Int} : ∀ (l : List α) (s : Int), -1 ≤ s → -1 ≤ szF g l s
  | [], s, h => h
  | x :: xs, s, h => by
    unfold szF
    split
    · omega
    · exact szF_ge xs _ (by omega)
theorem szS_ge {α : Type} {g : α → Int → Int} (l : List α) (a : Int) : -1 ≤ szS g l a := by
  unfold szS; split
  · omega
  · exact szF_ge _ _ (by omega)
theorem szMessageK (xs : List S200) (hm : xs.length ≤ maxLen) (hb : ∀ y ∈ xs, y.f3.length ≤ maxLen) : ∃ K, ∀ a, 0 ≤ a → a ≤ M20 → ∀ k, K ≤ k → laws_szMessageS.f k xs a = some (szS (fun y s => szB y.f3.length s) xs a) := by
  refine ⟨xs.length + 1, fun a h0 h1 k hk => ?_⟩
  unfold maxLen at hm
  have h1' : a ≤ 1048576 := h1
  unfold laws_szMessageS.f szS
  rw [wrap_id (by omega) (by omega)]
  by_cases hn : a - (xs.length : Int) < 0
  · rw [if_pos hn, if_pos hn]
  rw [if_neg hn, if_neg hn]
  refine loopSz xs (fun y s => szB y.f3.length s) (fun k s i => laws_szMessageS.l0 k xs s i) 0 (fun x _ s h0 h1 => ?_) ?_ ?_ _ (by omega) (by unfold M20; omega) k (by omega)
  · have := (szB_le x.f3.length s).1; unfold M20 at *; omega
  · intro i h s k _ h0 h1
    simp only [laws_szMessageS.l0, laws_szMessage.f]
    rw [if_pos (by omega), if_pos (by omega), rd200 h, szBy _ _ h0 h1 (hb _ (List.getElem_mem h)), Option.bind_some, some_neg _ (szB_ge _ _), Option.bind_some, wrap_succ (by omega)]
  · intro s k _
    simp only [laws_szMessageS.l0]
    rw [if_neg (by omega)]
theorem szAirFrameK (xs : List S128) (hm : xs.length ≤ maxLen) (hb : ∀ y ∈ xs, y.f3.length ≤ maxLen) : ∃ K, ∀ a, 0 ≤ a → a ≤ M20 → ∀ k, K ≤ k → laws_szAirFrameS.f k xs a = some (szS (fun y s => szB y.f3.length s) xs a) := by
  refine ⟨xs.length + 1, fun a h0 h1 k hk => ?_⟩
  unfold maxLen at hm
  have h1' : a ≤ 1048576 := h1
  unfold laws_szAirFrameS.f szS
  rw [wrap_id (by omega) (by omega)]
  by_cases hn : a - (xs.length : Int) < 0
  · rw [if_pos hn, if_pos hn]
  rw [if_neg hn, if_neg hn]
  refine loopSz xs (fun y s => szB y.f3.length s) (fun k s i => laws_szAirFrameS.l0 k xs s i) 0 (fun x _ s h0 h1 => ?_) ?_ ?_ _ (by omega) (by unfold M20; omega) k (by omega)
  · have := (szB_le x.f3.length s).1; unfold M20 at *; omega
  · intro i h s k _ h0 h1
    simp only [laws_szAirFrameS.l0, laws_szAirFrame.f]
    rw [if_pos (by omega), if_pos (by omega), rd128 h, szBy _ _ h0 h1 (hb _ (List.getElem_mem h)), Option.bind_some, some_neg _ (szB_ge _ _), Option.bind_some, wrap_succ (by omega)]
  · intro s k _
    simp only [laws_szAirFrameS.l0]
    rw [if_neg (by omega)]
theorem szDeliveryK (xs : List S182) (hm : xs.length ≤ maxLen) (hb : ∀ y ∈ xs, y.f3.length ≤ maxLen) : ∃ K, ∀ a, 0 ≤ a → a ≤ M20 → ∀ k, K ≤ k → laws_szDeliveryS.f k xs a = some (szS (fun y s => szB y.f3.length s) xs a) := by
  refine ⟨xs.length + 1, fun a h0 h1 k hk => ?_⟩
  unfold maxLen at hm
  have h1' : a ≤ 1048576 := h1
  unfold laws_szDeliveryS.f szS
  rw [wrap_id (by omega) (by omega)]
  by_cases hn : a - (xs.length : Int) < 0
  · rw [if_pos hn, if_pos hn]
  rw [if_neg hn, if_neg hn]
  refine loopSz xs (fun y s => szB y.f3.length s) (fun k s i => laws_szDeliveryS.l0 k xs s i) 0 (fun x _ s h0 h1 => ?_) ?_ ?_ _ (by omega) (by unfold M20; omega) k (by omega)
  · have := (szB_le x.f3.length s).1; unfold M20 at *; omega
  · intro i h s k _ h0 h1
    simp only [laws_szDeliveryS.l0, laws_szDelivery.f]
    rw [if_pos (by omega), if_pos (by omega), rd182 h, szBy _ _ h0 h1 (hb _ (List.getElem_mem h)), Option.bind_some, some_neg _ (szB_ge _ _), Option.bind_some, wrap_succ (by omega)]
  · intro s k _
    simp only [laws_szDeliveryS.l0]
    rw [if_neg (by omega)]

def OkSt (x : S136) : Prop := (x.f0.f0.length ≤ 1048576 ∧ ∀ y ∈ x.f0.f0, y.f3.length ≤ 1048576) ∧ x.f2.f3.length ≤ 1048576 ∧ (x.f4.length ≤ 1048576 ∧ ∀ y ∈ x.f4, y.f3.length ≤ 1048576) ∧ x.f7.length ≤ 1048576 ∧ (x.f8.length ≤ 1048576 ∧ ∀ y ∈ x.f8, y.f3.length ≤ 1048576)
def WfSt (x : S136) : Prop := (x.f0.f0.length ≤ maxLen ∧ ∀ y ∈ x.f0.f0, y.f3.length ≤ maxLen) ∧ x.f2.f3.length ≤ maxLen ∧ (x.f4.length ≤ maxLen ∧ ∀ y ∈ x.f4, y.f3.length ≤ maxLen) ∧ x.f7.length ≤ maxLen ∧ (x.f8.length ≤ maxLen ∧ ∀ y ∈ x.f8, y.f3.length ≤ maxLen)
def thn (t : Int) (f : Int → Int) : Int := if t < 0 then -1 else f t
def szSt (x : S136) (a : Int) : Int :=
  thn (szS (fun y s => szB y.f3.length s) x.f0.f0 a) fun t => thn (szB x.f2.f3.length t) fun t => thn (szS (fun y s => szB y.f3.length s) x.f4 t) fun t => thn (szB x.f7.length t) fun t => szS (fun y s => szB y.f3.length s) x.f8 t
theorem szb_le (n : Nat) (s : Int) (h : 0 ≤ s) (h1 : s ≤ M20) (h2 : 0 ≤ szB n s) : szB n s ≤ s ∧ n ≤ 1048576 := by
  have := (szB_le n s).2 h2
  unfold M20 at h1; omega
theorem thn_ok {t : Int} {f : Int → Int} (h : 0 ≤ thn t f) : 0 ≤ t ∧ thn t f = f t := by
  unfold thn at h ⊢
  by_cases hn : t < 0
  · rw [if_pos hn] at h; omega
  · rw [if_neg hn]; exact ⟨Int.not_lt.mp hn, rfl⟩
theorem szM_le (x : S200) (s : Int) (h : 0 ≤ s) (h1 : s ≤ M20) (h2 : 0 ≤ szB x.f3.length s) : szB x.f3.length s ≤ s ∧ x.f3.length ≤ 1048576 := szb_le x.f3.length s h h1 h2
theorem szR_le (x : S128) (s : Int) (h : 0 ≤ s) (h1 : s ≤ M20) (h2 : 0 ≤ szB x.f3.length s) : szB x.f3.length s ≤ s ∧ x.f3.length ≤ 1048576 := szb_le x.f3.length s h h1 h2
theorem szD_le (x : S182) (s : Int) (h : 0 ≤ s) (h1 : s ≤ M20) (h2 : 0 ≤ szB x.f3.length s) : szB x.f3.length s ≤ s ∧ x.f3.length ≤ 1048576 := szb_le x.f3.length s h h1 h2
theorem szS_le' {α : Type} {g : α → Int → Int} {P : α → Prop} (hg : ∀ x s, 0 ≤ s → s ≤ M20 → 0 ≤ g x s → g x s ≤ s ∧ P x) {l : List α} {a t : Int} (e : szS g l a = t) (h1 : a ≤ M20) (h2 : 0 ≤ t) : t ≤ a ∧ l.length ≤ 1048576 ∧ ∀ x ∈ l, P x := by
  subst e; exact szS_le hg l a h1 h2
theorem szb_le' {n : Nat} {s t : Int} (e : szB n s = t) (h : 0 ≤ s) (h1 : s ≤ M20) (h2 : 0 ≤ t) : t ≤ s ∧ n ≤ 1048576 := by
  subst e; exact szb_le n s h h1 h2
theorem szSt_le (x : S136) (a : Int) (h0 : 0 ≤ a) (h1 : a ≤ M20) (h2 : 0 ≤ szSt x a) : szSt x a ≤ a ∧ OkSt x := by
  unfold szSt at h2 ⊢
  generalize ht1 : szS (fun y s => szB y.f3.length s) x.f0.f0 a = t1 at h2 ⊢
  obtain ⟨n1, c1⟩ := thn_ok h2
  rw [c1] at h2 ⊢
  try dsimp only at h2 ⊢
  generalize ht2 : szB x.f2.f3.length t1 = t2 at h2 ⊢
  obtain ⟨n2, c2⟩ := thn_ok h2
  rw [c2] at h2 ⊢
  try dsimp only at h2 ⊢
  generalize ht3 : szS (fun y s => szB y.f3.length s) x.f4 t2 = t3 at h2 ⊢
  obtain ⟨n3, c3⟩ := thn_ok h2
  rw [c3] at h2 ⊢
  try dsimp only at h2 ⊢
  generalize ht4 : szB x.f7.length t3 = t4 at h2 ⊢
  obtain ⟨n4, c4⟩ := thn_ok h2
  rw [c4] at h2 ⊢
  clear c1 c2 c3 c4
  try dsimp only at h2 ⊢
  generalize ht5 : szS (fun y s => szB y.f3.length s) x.f8 t4 = t5 at h2 ⊢
  obtain ⟨p1, q1⟩ := szS_le' (P := fun y => y.f3.length ≤ 1048576) szM_le ht1 h1 n1
  have b1 : t1 ≤ M20 := Int.le_trans p1 h1
  obtain ⟨p2, q2⟩ := szb_le' ht2 n1 b1 n2
  have b2 : t2 ≤ M20 := Int.le_trans p2 b1
  obtain ⟨p3, q3⟩ := szS_le' (P := fun y => y.f3.length ≤ 1048576) szR_le ht3 b2 n3
  have b3 : t3 ≤ M20 := Int.le_trans p3 b2
  obtain ⟨p4, q4⟩ := szb_le' ht4 n3 b3 n4
  have b4 : t4 ≤ M20 := Int.le_trans p4 b3
  obtain ⟨p5, q5⟩ := szS_le' (P := fun y => y.f3.length ≤ 1048576) szD_le ht5 b4 h2
  clear ht1 ht2 ht3 ht4 ht5
  have hle : t5 ≤ a := Int.le_trans p5 (Int.le_trans p4 (Int.le_trans p3 (Int.le_trans p2 p1)))
  exact ⟨hle, q1, q2, q3, q4, q5⟩
theorem szStK (x : S136) (hw : WfSt x) : ∃ K, ∀ a, 0 ≤ a → a ≤ M20 → ∀ k, K ≤ k → laws_szAirStation.f k x.f0.f0 x.f0.f1 x.f1 x.f2.f0 x.f2.f1 x.f2.f2 x.f2.f3 x.f2.f4 x.f3.f0.f0 x.f3.f0.f1 x.f3.f0.f2 x.f3.f0.f3 x.f3.f1 x.f3.f2 x.f3.f3 x.f3.f4 x.f3.f5 x.f4 x.f5 x.f6 x.f7 x.f8 a = some (szSt x a) := by
  obtain ⟨⟨w1, w2⟩, w3, ⟨w4, w5⟩, w6, w7, w8⟩ := hw
  obtain ⟨K1, e1⟩ := szMessageK x.f0.f0 w1 w2
  obtain ⟨K2, e2⟩ := szAirFrameK x.f4 w4 w5
  obtain ⟨K3, e3⟩ := szDeliveryK x.f8 w7 w8
  refine ⟨K1 + K2 + K3, fun a h0 h1 k hk => ?_⟩
  unfold laws_szAirStation.f laws_szTransmitQueue.f laws_szAirFrame.f
  simp only [szSt, thn]
  rw [e1 a h0 h1 k (by omega), Option.bind_some, some_neg _ (szS_ge _ _), Option.bind_some]
  split
  · rfl
  rename_i n1
  obtain ⟨p1, _⟩ := szS_le (P := fun _ => True) (fun x s h h1 h2 => ⟨(szb_le _ _ h h1 h2).1, trivial⟩) x.f0.f0 a h1 (Int.not_lt.mp n1)
  rw [szBy _ _ (by omega) (by omega) w3, Option.bind_some, some_neg _ (szB_ge _ _), Option.bind_some]
  split
  · rfl
  rename_i n2
  obtain ⟨p2, _⟩ := szb_le _ _ (by omega) (by omega) (Int.not_lt.mp n2)
  rw [e2 _ (by omega) (by omega) k (by omega), Option.bind_some]
  split
  · rfl
  rename_i n3
  obtain ⟨p3, _⟩ := szS_le (P := fun _ => True) (fun x s h h1 h2 => ⟨(szb_le _ _ h h1 h2).1, trivial⟩) x.f4 _ (by omega) (Int.not_lt.mp n3)
  rw [szSeen _ _ (by omega) (by omega) w6, Option.bind_some]
  split
  · rfl
  rename_i n4
  obtain ⟨p4, _⟩ := szb_le _ _ (by omega) (by omega) (Int.not_lt.mp n4)
  rw [e3 _ (by omega) (by omega) k (by omega), Option.bind_some, some_neg _ (szS_ge _ _)]
theorem exK {α : Type} (xs : List α) (Q : α → Nat → Prop) (h : ∀ x ∈ xs, ∃ K, ∀ k, K ≤ k → Q x k) : ∃ K, ∀ x ∈ xs, ∀ k, K ≤ k → Q x k := by
  induction xs with
  | nil => exact ⟨0, by simp⟩
  | cons x xs ih =>
    obtain ⟨K1, h1⟩ := h x (by simp)
    obtain ⟨K2, h2⟩ := ih (fun y hy => h y (by simp [hy]))
    refine ⟨K1 + K2, fun y hy k hk => ?_⟩
    rcases List.mem_cons.1 hy with rfl | hy
    · exact h1 k (by omega)
    · exact h2 y hy k (by omega)
theorem szStsK (xs : List S136) (hm : xs.length ≤ maxLen) (hw : ∀ x ∈ xs, WfSt x) : ∃ K, ∀ a, 0 ≤ a → a ≤ M20 → ∀ k, K ≤ k → laws_szAirStationS.f k xs a = some (szS szSt xs a) := by
  obtain ⟨K, e⟩ := exK xs (fun x k => ∀ a, 0 ≤ a → a ≤ M20 → laws_szAirStation.f k x.f0.f0 x.f0.f1 x.f1 x.f2.f0 x.f2.f1 x.f2.f2 x.f2.f3 x.f2.f4 x.f3.f0.f0 x.f3.f0.f1 x.f3.f0.f2 x.f3.f0.f3 x.f3.f1 x.f3.f2 x.f3.f3 x.f3.f4 x.f3.f5 x.f4 x.f5 x.f6 x.f7 x.f8 a = some (szSt x a)) (fun x hx => by
    obtain ⟨K, h⟩ := szStK x (hw x hx)
    exact ⟨K, fun k hk a h0 h1 => h a h0 h1 k hk⟩)
  unfold maxLen at hm
  refine ⟨K + xs.length + 1, fun a h0 h1 k hk => ?_⟩
  have h1' : a ≤ 1048576 := h1
  unfold laws_szAirStationS.f szS
  rw [wrap_id (by omega) (by omega)]
  by_cases hn : a - (xs.length : Int) < 0
  · rw [if_pos hn, if_pos hn]
  rw [if_neg hn, if_neg hn]
  refine loopSz xs szSt (fun k s i => laws_szAirStationS.l0 k xs s i) K (fun x _ s h0 h1 => ?_) ?_ ?_ _ (by omega) (by unfold M20; omega) k (by omega)
  · by_cases hp : 0 ≤ szSt x s
    · have := (szSt_le x s h0 h1 hp).1; omega
    · unfold M20 at *; omega
  · intro i h s k hk h0 h1
    simp only [laws_szAirStationS.l0]
    rw [if_pos (by omega), if_pos (by omega), rd136 h, e _ (List.getElem_mem h) k hk s h0 h1, Option.bind_some, wrap_succ (by omega)]
  · intro s k _
    simp only [laws_szAirStationS.l0]
    rw [if_neg (by omega)]
def cvSt (x : S136) : S97 := ⟨⟨x.f0.f0.map cvMessage, x.f0.f1⟩, x.f1, cvAirFrame x.f2, ⟨⟨x.f3.f0.f0, x.f3.f0.f1, x.f3.f0.f2, x.f3.f0.f3⟩, x.f3.f1, x.f3.f2, x.f3.f3, x.f3.f4, x.f3.f5⟩, x.f4.map cvAirFrame, x.f5, x.f6, x.f7.map cvSeenFrame, x.f8.map cvDelivery⟩
theorem toStK (x : S136) (hw : OkSt x) : ∃ K, ∀ k, K ≤ k → laws_toAirStation.f k x.f0.f0 x.f0.f1 x.f1 x.f2.f0 x.f2.f1 x.f2.f2 x.f2.f3 x.f2.f4 x.f3.f0.f0 x.f3.f0.f1 x.f3.f0.f2 x.f3.f0.f3 x.f3.f1 x.f3.f2 x.f3.f3 x.f3.f4 x.f3.f5 x.f4 x.f5 x.f6 x.f7 x.f8 = some (x.f0.f0.map cvMessage, x.f0.f1, x.f1, x.f2.f0, x.f2.f1, x.f2.f2, x.f2.f3, x.f2.f4, x.f3.f0.f0, x.f3.f0.f1, x.f3.f0.f2, x.f3.f0.f3, x.f3.f1, x.f3.f2, x.f3.f3, x.f3.f4, x.f3.f5, x.f4.map cvAirFrame, x.f5, x.f6, x.f7.map cvSeenFrame, x.f8.map cvDelivery) := by
  obtain ⟨⟨w1, w2⟩, w3, ⟨w4, w5⟩, w6, w7, w8⟩ := hw
  obtain ⟨K1, e1⟩ := toMessageS x.f0.f0 w1 w2
  obtain ⟨K2, e2⟩ := toByteS x.f2.f3 w3
  obtain ⟨K3, e3⟩ := toAirFrameS x.f4 w4 w5
  obtain ⟨K4, e4⟩ := toSeenFrameS x.f7 w6
  obtain ⟨K5, e5⟩ := toDeliveryS x.f8 w7 w8
  dsimp only at e1 e2 e3 e4 e5
  refine ⟨K1 + K2 + K3 + K4 + K5, fun k hk => ?_⟩
  unfold laws_toAirStation.f laws_toTransmitQueue.f laws_toAirFrame.f laws_toBackoff.f laws_toAccessParams.f
  simp only [e1 k (by omega), e2 k (by omega), e3 k (by omega), e4 k (by omega), e5 k (by omega), Option.bind_some]
theorem toStsS (xs : List S136) (hl : xs.length ≤ 1048576) (hw : ∀ x ∈ xs, OkSt x) : Ev (fun k => laws_toAirStationS.f k xs) (xs.map cvSt) := by
  obtain ⟨K, e⟩ := exK xs (fun x k => laws_toAirStation.f k x.f0.f0 x.f0.f1 x.f1 x.f2.f0 x.f2.f1 x.f2.f2 x.f2.f3 x.f2.f4 x.f3.f0.f0 x.f3.f0.f1 x.f3.f0.f2 x.f3.f0.f3 x.f3.f1 x.f3.f2 x.f3.f3 x.f3.f4 x.f3.f5 x.f4 x.f5 x.f6 x.f7 x.f8 = some (x.f0.f0.map cvMessage, x.f0.f1, x.f1, x.f2.f0, x.f2.f1, x.f2.f2, x.f2.f3, x.f2.f4, x.f3.f0.f0, x.f3.f0.f1, x.f3.f0.f2, x.f3.f0.f3, x.f3.f1, x.f3.f2, x.f3.f3, x.f3.f4, x.f3.f5, x.f4.map cvAirFrame, x.f5, x.f6, x.f7.map cvSeenFrame, x.f8.map cvDelivery)) (fun x hx => toStK x (hw x hx))
  refine ev_congr (g' := fun k => laws_toAirStationS.l0 k xs (List.replicate xs.length z97) 0) (fun k => ?_) ?_
  · unfold laws_toAirStationS.f
    rw [if_pos (by omega), if_pos (by omega), Int.toNat_natCast]
  · refine loopMap xs cvSt z97 (fun k ys i => laws_toAirStationS.l0 k xs ys i) K ?_ ?_
    · intro i h ys k hk hy
      simp only [laws_toAirStationS.l0]
      rw [if_pos (by omega), if_pos (by omega), rd136 h, e _ (List.getElem_mem h) k hk, Option.bind_some, if_pos (by omega), wrap_succ (by omega), Int.toNat_natCast]
      rfl
    · intro ys k _
      simp only [laws_toAirStationS.l0]
      rw [if_neg (by omega)]
def OkS (x : S97) : Prop := (x.f0.f0.length ≤ 1048576 ∧ ∀ y ∈ x.f0.f0, y.f3.length ≤ 1048576) ∧ x.f2.f3.length ≤ 1048576 ∧ (x.f4.length ≤ 1048576 ∧ ∀ y ∈ x.f4, y.f3.length ≤ 1048576) ∧ x.f7.length ≤ 1048576 ∧ (x.f8.length ≤ 1048576 ∧ ∀ y ∈ x.f8, y.f3.length ≤ 1048576)
theorem okcv {x : S136} (h : OkSt x) : OkS (cvSt x) := by
  obtain ⟨⟨w1, w2⟩, w3, ⟨w4, w5⟩, w6, w7, w8⟩ := h
  refine ⟨⟨by simpa [cvSt] using w1, ?_⟩, w3, ⟨by simpa [cvSt] using w4, ?_⟩, by simpa [cvSt] using w6, by simpa [cvSt] using w7, ?_⟩
  · intro y hy; obtain ⟨z, hz, rfl⟩ := List.mem_map.1 hy; exact w2 z hz
  · intro y hy; obtain ⟨z, hz, rfl⟩ := List.mem_map.1 hy; exact w5 z hz
  · intro y hy; obtain ⟨z, hz, rfl⟩ := List.mem_map.1 hy; exact w8 z hz
theorem eqStK (x : S97) (hw : OkS x) : ∃ K, ∀ k, K ≤ k → laws_eqAirStation.f k x.f0.f0 x.f0.f1 x.f1 x.f2.f0 x.f2.f1 x.f2.f2 x.f2.f3 x.f2.f4 x.f3.f0.f0 x.f3.f0.f1 x.f3.f0.f2 x.f3.f0.f3 x.f3.f1 x.f3.f2 x.f3.f3 x.f3.f4 x.f3.f5 x.f4 x.f5 x.f6 x.f7 x.f8 x.f0.f0 x.f0.f1 x.f1 x.f2.f0 x.f2.f1 x.f2.f2 x.f2.f3 x.f2.f4 x.f3.f0.f0 x.f3.f0.f1 x.f3.f0.f2 x.f3.f0.f3 x.f3.f1 x.f3.f2 x.f3.f3 x.f3.f4 x.f3.f5 x.f4 x.f5 x.f6 x.f7 x.f8 = some true := by
  obtain ⟨⟨w1, w2⟩, w3, ⟨w4, w5⟩, w6, w7, w8⟩ := hw
  obtain ⟨K1, e1⟩ := eqMessageS x.f0.f0 w1 w2
  obtain ⟨K2, e2⟩ := eqByteS x.f2.f3 (by omega)
  obtain ⟨K3, e3⟩ := eqAirFrameS x.f4 w4 w5
  obtain ⟨K4, e4⟩ := eqSeenFrameS x.f7 (by omega)
  obtain ⟨K5, e5⟩ := eqDeliveryS x.f8 w7 w8
  dsimp only at e1 e2 e3 e4 e5
  refine ⟨K1 + K2 + K3 + K4 + K5, fun k hk => ?_⟩
  unfold laws_eqAirStation.f laws_eqTransmitQueue.f laws_eqAirFrame.f laws_eqBackoff.f laws_eqAccessParams.f
  simp only [e1 k (by omega), e2 k (by omega), e3 k (by omega), e4 k (by omega), e5 k (by omega), Option.bind_some, if_true, bne_self_eq_false, Bool.false_eq_true, if_false]
theorem eqStsS (xs : List S97) (hl : xs.length ≤ 1048576) (hw : ∀ x ∈ xs, OkS x) : Ev (fun k => laws_eqAirStationS.f k xs xs) true := by
  obtain ⟨K, e⟩ := exK xs (fun x k => laws_eqAirStation.f k x.f0.f0 x.f0.f1 x.f1 x.f2.f0 x.f2.f1 x.f2.f2 x.f2.f3 x.f2.f4 x.f3.f0.f0 x.f3.f0.f1 x.f3.f0.f2 x.f3.f0.f3 x.f3.f1 x.f3.f2 x.f3.f3 x.f3.f4 x.f3.f5 x.f4 x.f5 x.f6 x.f7 x.f8 x.f0.f0 x.f0.f1 x.f1 x.f2.f0 x.f2.f1 x.f2.f2 x.f2.f3 x.f2.f4 x.f3.f0.f0 x.f3.f0.f1 x.f3.f0.f2 x.f3.f0.f3 x.f3.f1 x.f3.f2 x.f3.f3 x.f3.f4 x.f3.f5 x.f4 x.f5 x.f6 x.f7 x.f8 = some true) (fun x hx => eqStK x (hw x hx))
  refine ev_congr (g' := fun k => laws_eqAirStationS.l0 k xs xs 0) (fun k => ?_) ?_
  · unfold laws_eqAirStationS.f
    rw [if_pos rfl]
  · refine run_loop 1 (fun k i => laws_eqAirStationS.l0 k xs xs (i : Int)) xs.length true K ?_ ?_
    · intro i h k hk
      simp only [laws_eqAirStationS.l0]
      rw [if_pos (by omega), if_pos (by omega), if_pos (by omega), rd97 h, e _ (List.getElem_mem h) k hk, Option.bind_some, if_pos rfl, wrap_succ (by omega)]
    · intro k _
      simp only [laws_eqAirStationS.l0]
      rw [if_neg (by omega)]
/-- The head of an exact law over an Air: it is too large, or it turns into X. -/
theorem airHead (l0 : List Int) (a1 a2 : Int) (l3 : List S136) (a4 a5 a6 : Int) (hm0 : l0.length ≤ maxLen) (hm3 : l3.length ≤ maxLen) (hw : ∀ x ∈ l3, WfSt x) :
    (∃ t, t < 0 ∧ Ev (fun k => laws_szAir.f k l0 a1 a2 l3 a4 a5 a6 1048576) t) ∨ ∃ t X, ¬ t < 0 ∧ Ev (fun k => laws_szAir.f k l0 a1 a2 l3 a4 a5 a6 1048576) t ∧ Ev (fun k => laws_toAir.f k l0 a1 a2 l3 a4 a5 a6) (l0, a1, a2, X, a4, a5, a6) ∧ Ev (fun k => laws_eqAir.f k l0 a1 a2 X a4 a5 a6 l0 a1 a2 X a4 a5 a6) true ∧ X.length ≤ 1048576 ∧ (∀ x ∈ X, OkS x) ∧ l0.length ≤ 1048576 := by
  obtain ⟨K, e⟩ := szStsK l3 hm3 hw
  have e0 := szInt l0 1048576 (by omega) (by unfold M20; omega) hm0
  have hsz : Ev (fun k => laws_szAir.f k l0 a1 a2 l3 a4 a5 a6 1048576) (thn (szB l0.length 1048576) fun t => szS szSt l3 t) := by
    refine ⟨K, fun k hk => ?_⟩
    dsimp only
    unfold laws_szAir.f laws_szPlacement.f thn
    rw [e0, Option.bind_some, some_neg _ (szB_ge _ _), Option.bind_some]
    split
    · rfl
    · rename_i n1
      have := (szB_le l0.length 1048576).2 (by omega)
      rw [e _ (by omega) (by unfold M20; omega) k hk, Option.bind_some, some_neg _ (szS_ge _ _)]
  generalize ht : (thn (szB l0.length 1048576) fun t => szS szSt l3 t) = t at hsz
  by_cases hn : t < 0
  · exact .inl ⟨t, hn, hsz⟩
  unfold thn at ht
  split at ht
  · omega
  rename_i n1
  dsimp only at ht
  have h1 := (szB_le l0.length 1048576).2 (by omega)
  obtain ⟨_, r2, r3⟩ := szS_le (fun x s h h1 h2 => szSt_le x s h h1 h2) l3 (szB l0.length 1048576) (by unfold M20; omega) (by omega)
  have hX : (l3.map cvSt).length ≤ 1048576 := by simpa using r2
  have hO : ∀ x ∈ l3.map cvSt, OkS x := by intro y hy; obtain ⟨z, hz, rfl⟩ := List.mem_map.1 hy; exact okcv (r3 z hz)
  refine .inr ⟨t, l3.map cvSt, hn, hsz, ?_, ?_, hX, hO, by omega⟩
  · obtain ⟨K1, e1⟩ := toIntS l0 (by omega)
    obtain ⟨K2, e2⟩ := toStsS l3 r2 r3
    dsimp only at e1 e2
    refine ⟨K1 + K2, fun k hk => ?_⟩
    dsimp only
    unfold laws_toAir.f laws_toPlacement.f
    rw [e1 k (by omega), Option.bind_some, Option.bind_some, e2 k (by omega), Option.bind_some]
  · obtain ⟨K1, e1⟩ := eqIntS l0 (by omega)
    obtain ⟨K2, e2⟩ := eqStsS _ hX hO
    dsimp only at e1 e2
    refine ⟨K1 + K2, fun k hk => ?_⟩
    dsimp only
    unfold laws_eqAir.f laws_eqPlacement.f
    simp only [e1 k (by omega), e2 k (by omega), Option.bind_some, if_true]

theorem wfSt {l : List S136} (h : WS25 l) : l.length ≤ maxLen ∧ ∀ x ∈ l, WfSt x := by
  refine ⟨h.1, fun x hx => ?_⟩
  obtain ⟨a, _, b, _, c, _, _, d, e⟩ := h.2 x hx
  exact ⟨⟨a.1.1, fun y hy => (a.1.2 y hy).2.2.2.1⟩, b.2.2.2.1.1, ⟨c.1, fun y hy => (c.2 y hy).2.2.2.1.1⟩, d.1, ⟨e.1, fun y hy => (e.2 y hy).2.2.2.1⟩⟩
theorem okrd {xs : List S97} {a : Int} (hO : ∀ x ∈ xs, OkS x) (h : 0 ≤ a ∧ a < (xs.length : Int)) : OkS (rd_T97 xs a) := by
  obtain ⟨i, rfl⟩ := Int.eq_ofNat_of_zero_le h.1
  have hi : i < xs.length := by omega
  show OkS (rd_T97 xs (i : Int))
  rw [rd97 hi]
  exact hO _ (List.getElem_mem hi)
theorem ev_succ {α : Type} {f g : Nat → Option α} {r : α} (h : Ev g r) (hs : ∀ k, f (k + 1) = g k) : Ev f r := by
  obtain ⟨K, h⟩ := h
  refine ⟨K + 1, fun k hk => ?_⟩
  obtain ⟨k, rfl⟩ : ∃ q, k = q + 1 := ⟨k - 1, by omega⟩
  rw [hs k]; exact h k (by omega)
abbrev rdD (l : List S102) (q : Nat) : S102 := rd_T102 l (q : Int)
def sameD (l : List S102) (q j : Nat) : Bool := decide ((rdD l q).f0 = (rdD l j).f0) && decide ((rdD l q).f2 = (rdD l j).f2)
def dupD (l : List S102) (j m d : Nat) : Bool := (List.range' m d).any (fun q => sameD l q j)
def onceD (l : List S102) (j d : Nat) : Bool := (List.range' j d).all (fun q => !dupD l q 0 q)
theorem dup_zero (l : List S102) (j m : Nat) : dupD l j m 0 = false := rfl
theorem dup_succ (l : List S102) (j m d : Nat) : dupD l j m (d + 1) = (sameD l m j || dupD l j (m + 1) d) := by
  unfold dupD; rw [List.range'_succ, List.any_cons]
theorem once_zero (l : List S102) (j : Nat) : onceD l j 0 = true := rfl
theorem once_succ (l : List S102) (j d : Nat) : onceD l j (d + 1) = (!dupD l j 0 j && onceD l (j + 1) d) := by
  unfold onceD; rw [List.range'_succ, List.all_cons]
theorem once_if (l : List S102) (j d : Nat) (r : Bool) : (if dupD l j 0 j = true then false else if onceD l (j + 1) d = true then r else false) = if onceD l j (d + 1) = true then r else false := by
  rw [once_succ]; cases dupD l j 0 j <;> simp
theorem ev_eq {α : Type} {f : Nat → Option α} {r r' : α} (h : Ev f r) (e : r = r') : Ev f r' := e ▸ h
section
variable (a : List Int) (b c : Int) (xs : List S97) (e f g : Int)
theorem sp2 (x3 : Int) (l : List S102) (hl : l.length ≤ 1048576) (j : Nat) (hj : j < l.length) (r : Bool) (h : Ev (fun k => spec_DeliveredOnce.l1 k x3 l ((j + 1 : Nat) : Int) a b c xs e f g) r) :
    ∀ d m, m + d = j → Ev (fun k => spec_DeliveredOnce.l2 k x3 l (j : Int) (m : Int) a b c xs e f g) (if dupD l j m d = true then false else r)
  | 0, m, hm => by
    rw [dup_zero, if_neg (by simp)]
    refine ev_succ h (fun k => ?_)
    rw [spec_DeliveredOnce.l2, if_neg (by omega), wrap_succ (by omega)]
  | d + 1, m, hm => by
    have ih := sp2 x3 l hl j hj r h d (m + 1) (by omega)
    rw [dup_succ]
    by_cases c0 : (rdD l m).f0 = (rdD l j).f0
    · by_cases c2 : (rdD l m).f2 = (rdD l j).f2
      · have hs : sameD l m j = true := by simp [sameD, c0, c2]
        rw [hs, Bool.true_or, if_pos rfl]
        refine ⟨1, fun k hk => ?_⟩
        obtain ⟨k, rfl⟩ : ∃ q, k = q + 1 := ⟨k - 1, by omega⟩
        show spec_DeliveredOnce.l2 (k + 1) x3 l (j : Int) (m : Int) a b c xs e f g = _
        rw [spec_DeliveredOnce.l2, if_pos (by omega), if_pos (by omega), if_pos (by omega), if_pos (by omega), if_pos (by omega), if_pos c0, if_pos c2]
      · have hs : sameD l m j = false := by simp [sameD, c2]
        rw [hs, Bool.false_or]
        refine ev_succ ih (fun k => ?_)
        rw [spec_DeliveredOnce.l2, if_pos (by omega), if_pos (by omega), if_pos (by omega), if_pos (by omega), if_pos (by omega), if_pos c0, if_neg c2, wrap_succ (by omega)]
    · have hs : sameD l m j = false := by simp [sameD, c0]
      rw [hs, Bool.false_or]
      refine ev_succ ih (fun k => ?_)
      rw [spec_DeliveredOnce.l2, if_pos (by omega), if_pos (by omega), if_pos (by omega), if_pos (by omega), if_pos (by omega), if_neg c0, wrap_succ (by omega)]
theorem sp1 (i : Nat) (hi : i < 1048576) (l : List S102) (hl : l.length ≤ 1048576) (r : Bool) (h : Ev (fun k => spec_DeliveredOnce.l0 k ((i + 1 : Nat) : Int) a b c xs e f g) r) :
    ∀ d j, j + d = l.length → Ev (fun k => spec_DeliveredOnce.l1 k (i : Int) l (j : Int) a b c xs e f g) (if onceD l j d = true then r else false)
  | 0, j, hj => by
    rw [once_zero, if_pos rfl]
    refine ev_succ h (fun k => ?_)
    rw [spec_DeliveredOnce.l1, if_neg (by omega), wrap_succ (by omega)]
  | d + 1, j, hj => by
    refine ev_eq (ev_succ (sp2 a b c xs e f g (i : Int) l hl j (by omega) _ (sp1 i hi l hl r h d (j + 1) (by omega)) j 0 (by omega)) (fun k => ?_)) (once_if l j d r)
    rw [spec_DeliveredOnce.l1, if_pos (by omega)]
    rfl
theorem sp0 (hx : xs.length ≤ 1048576) (hO : ∀ x ∈ xs, OkS x) :
    ∀ d i, i + d = xs.length → Ev (fun k => spec_DeliveredOnce.l0 k (i : Int) a b c xs e f g) ((List.range' i d).all (fun q => onceD (rd_T97 xs (q : Int)).f8 0 (rd_T97 xs (q : Int)).f8.length))
  | 0, i, hi => by
    refine ⟨1, fun k hk => ?_⟩
    obtain ⟨k, rfl⟩ : ∃ q, k = q + 1 := ⟨k - 1, by omega⟩
    show spec_DeliveredOnce.l0 (k + 1) (i : Int) a b c xs e f g = _
    rw [spec_DeliveredOnce.l0, if_neg (by omega)]; rfl
  | d + 1, i, hi => by
    rw [List.range'_succ, List.all_cons]
    have hs := (okrd hO (a := (i : Int)) ⟨by omega, by omega⟩).2.2.2.2.1
    refine ev_eq (ev_succ (sp1 a b c xs e f g i (by omega) _ hs _ (sp0 hx hO d (i + 1) (by omega)) (rd_T97 xs (i : Int)).f8.length 0 (by omega)) (fun k => ?_)) ?_
    · rw [spec_DeliveredOnce.l0, if_pos (by omega), if_pos (by omega)]
      rfl
    · cases onceD (rd_T97 xs (i : Int)).f8 0 (rd_T97 xs (i : Int)).f8.length <;> simp
end
theorem rd_take (l : List S102) (j m : Nat) (h : m < j) (hj : j ≤ l.length) : rd_T102 (l.take j) (m : Int) = rdD l m := by
  have h1 : m < (l.take j).length := by rw [List.length_take]; omega
  rw [rd102 h1, List.getElem_take]
  exact (rd102 (show m < l.length by omega)).symm
section
variable (xs : List S97) (l : List S102)
variable (y0 : List S173) (y1 : Int) (y2 : Bool) (y3 y4 y5 : Int) (y6 : List Int) (y7 : Bool) (y8 y9 y10 y11 y12 y13 y14 y15 y16 : Int) (y17 : List S88) (y18 y19 : Int) (y20 : List S141)
theorem im2 (n12 : Int) (hl : l.length ≤ 1048576) (j : Nat) (hj : j < l.length) (r : Bool) (z1 : Int) (z3 : List Int) (h : Ev (fun k => impl_DeliveredOnce.l1 k xs (xs.length : Int) n12 l (l.length : Int) ((j + 1 : Nat) : Int) y0 y1 y2 y3 y4 y5 y6 y7 y8 y9 y10 y11 y12 y13 y14 y15 y16 y17 y18 y19 y20 l) r) :
    ∀ d m, m + d = j → Ev (fun k => impl_DeliveredOnce.l2 k xs (xs.length : Int) n12 l (l.length : Int) (j : Int) (l.take j) (((l.take j).length : Nat) : Int) (m : Int) y0 y1 y2 y3 y4 y5 y6 y7 y8 y9 y10 y11 y12 y13 y14 y15 y16 y17 y18 y19 y20 l (rdD l j).f0 z1 (rdD l j).f2 z3) (if dupD l j m d = true then false else r)
  | 0, m, hm => by
    have ht : (l.take j).length = j := by rw [List.length_take]; omega
    rw [dup_zero, if_neg (by simp)]
    refine ev_succ h (fun k => ?_)
    rw [impl_DeliveredOnce.l2, ht, if_neg (by omega), wrap_succ (by omega)]
  | d + 1, m, hm => by
    have ih := im2 n12 hl j hj r z1 z3 h d (m + 1) (by omega)
    have ht : (l.take j).length = j := by rw [List.length_take]; omega
    have hr := rd_take l j m (by omega) (by omega)
    rw [ht] at ih ⊢
    rw [dup_succ]
    by_cases c0 : (rdD l m).f0 = (rdD l j).f0
    · by_cases c2 : (rdD l m).f2 = (rdD l j).f2
      · have hs : sameD l m j = true := by simp [sameD, c0, c2]
        rw [hs, Bool.true_or, if_pos rfl]
        refine ⟨1, fun k hk => ?_⟩
        obtain ⟨k, rfl⟩ : ∃ q, k = q + 1 := ⟨k - 1, by omega⟩
        dsimp only
        rw [impl_DeliveredOnce.l2, if_pos (by omega), if_pos (by omega), ht, if_pos (by omega), hr, if_pos c0.symm, if_pos c2.symm]
      · have hs : sameD l m j = false := by simp [sameD, c2]
        rw [hs, Bool.false_or]
        refine ev_succ ih (fun k => ?_)
        rw [impl_DeliveredOnce.l2, if_pos (by omega), if_pos (by omega), ht, if_pos (by omega), hr, if_pos c0.symm, if_neg (fun q => c2 q.symm), wrap_succ (by omega)]
    · have hs : sameD l m j = false := by simp [sameD, c0]
      rw [hs, Bool.false_or]
      refine ev_succ ih (fun k => ?_)
      rw [impl_DeliveredOnce.l2, if_pos (by omega), if_pos (by omega), ht, if_pos (by omega), hr, if_neg (fun q => c0 q.symm), wrap_succ (by omega)]
theorem im1 (i : Nat) (hi : i < 1048576) (hl : l.length ≤ 1048576) (r : Bool) (h : Ev (fun k => impl_DeliveredOnce.l0 k xs (xs.length : Int) ((i + 1 : Nat) : Int)) r) :
    ∀ d j, j + d = l.length → Ev (fun k => impl_DeliveredOnce.l1 k xs (xs.length : Int) (i : Int) l (l.length : Int) (j : Int) y0 y1 y2 y3 y4 y5 y6 y7 y8 y9 y10 y11 y12 y13 y14 y15 y16 y17 y18 y19 y20 l) (if onceD l j d = true then r else false)
  | 0, j, hj => by
    rw [once_zero, if_pos rfl]
    refine ev_succ h (fun k => ?_)
    rw [impl_DeliveredOnce.l1, if_neg (by omega), wrap_succ (by omega)]
  | d + 1, j, hj => by
    refine ev_eq (ev_succ (im2 xs l y0 y1 y2 y3 y4 y5 y6 y7 y8 y9 y10 y11 y12 y13 y14 y15 y16 y17 y18 y19 y20 (i : Int) hl j (by omega) _ (rdD l j).f1 (rdD l j).f3 (im1 i hi hl r h d (j + 1) (by omega)) j 0 (by omega)) (fun k => ?_)) (once_if l j d r)
    rw [impl_DeliveredOnce.l1, if_pos (by omega), if_pos (by omega), if_pos (by omega), if_pos (by omega), Option.bind_some, Int.toNat_natCast]
    rfl
end
theorem im0 (xs : List S97) (hx : xs.length ≤ 1048576) (hO : ∀ x ∈ xs, OkS x) :
    ∀ d i, i + d = xs.length → Ev (fun k => impl_DeliveredOnce.l0 k xs (xs.length : Int) (i : Int)) ((List.range' i d).all (fun q => onceD (rd_T97 xs (q : Int)).f8 0 (rd_T97 xs (q : Int)).f8.length))
  | 0, i, hi => by
    refine ⟨1, fun k hk => ?_⟩
    obtain ⟨k, rfl⟩ : ∃ q, k = q + 1 := ⟨k - 1, by omega⟩
    dsimp only
    rw [impl_DeliveredOnce.l0, if_neg (by omega)]; rfl
  | d + 1, i, hi => by
    rw [List.range'_succ, List.all_cons]
    have hs := (okrd hO (a := (i : Int)) ⟨by omega, by omega⟩).2.2.2.2.1
    refine ev_eq (ev_succ (im1 xs _ (rd_T97 xs (i : Int)).f0.f0 (rd_T97 xs (i : Int)).f0.f1 (rd_T97 xs (i : Int)).f1 (rd_T97 xs (i : Int)).f2.f0 (rd_T97 xs (i : Int)).f2.f1 (rd_T97 xs (i : Int)).f2.f2 (rd_T97 xs (i : Int)).f2.f3 (rd_T97 xs (i : Int)).f2.f4 (rd_T97 xs (i : Int)).f3.f0.f0 (rd_T97 xs (i : Int)).f3.f0.f1 (rd_T97 xs (i : Int)).f3.f0.f2 (rd_T97 xs (i : Int)).f3.f0.f3 (rd_T97 xs (i : Int)).f3.f1 (rd_T97 xs (i : Int)).f3.f2 (rd_T97 xs (i : Int)).f3.f3 (rd_T97 xs (i : Int)).f3.f4 (rd_T97 xs (i : Int)).f3.f5 (rd_T97 xs (i : Int)).f4 (rd_T97 xs (i : Int)).f5 (rd_T97 xs (i : Int)).f6 (rd_T97 xs (i : Int)).f7 i (by omega) hs _ (im0 xs hx hO d (i + 1) (by omega)) (rd_T97 xs (i : Int)).f8.length 0 (by omega)) (fun k => ?_)) ?_
    · rw [impl_DeliveredOnce.l0, if_pos (by omega), if_pos (by omega), if_pos (by omega)]
      rfl
    · cases onceD (rd_T97 xs (i : Int)).f8 0 (rd_T97 xs (i : Int)).f8.length <;> simp
theorem FnExactDeliveredOnce : OFnExactDeliveredOnce.Pure := by
  intro l0 a1 a2 l3 a4 a5 a6 hm0 _ _ hm3 _ _ _
  obtain ⟨w1, w2⟩ := wfSt hm3
  rcases airHead l0 a1 a2 l3 a4 a5 a6 hm0.1 w1 w2 with ⟨t, hn, K, e⟩ | ⟨t, X, hn, ⟨K1, e1⟩, ⟨K2, e2⟩, ⟨K3, e3⟩, hX, hO, h0⟩
  · exact ⟨K, by unfold laws_FnExactDeliveredOnce.f; dsimp only at e; rw [e K (Nat.le_refl _), Option.bind_some, if_pos hn]⟩
  obtain ⟨K4, e4⟩ := sp0 l0 a1 a2 X a4 a5 a6 hX hO X.length 0 (by omega)
  obtain ⟨K5, e5⟩ := im0 X hX hO X.length 0 (by omega)
  have e4 : ∀ k, K4 ≤ k → spec_DeliveredOnce.f k l0 a1 a2 X a4 a5 a6 = some _ := e4
  have e5 : ∀ k, K5 ≤ k → impl_DeliveredOnce.f k l0 a1 a2 X a4 a5 a6 = some _ := e5
  refine ⟨K1 + K2 + K3 + K4 + K5 + 0, ?_⟩
  generalize hk : K1 + K2 + K3 + K4 + K5 = k
  have a1_0 := e1 (k) (by omega)
  have a2_0 := e2 (k) (by omega)
  have a3_0 := e3 (k) (by omega)
  have a4_0 := e4 (k) (by omega)
  have a5_0 := e5 (k) (by omega)
  simp only [laws_FnExactDeliveredOnce.f, a1_0, a2_0, a3_0, a4_0, a5_0, hn, Option.bind_some, if_true, if_false, Bool.not_true, Bool.not_false, Bool.false_eq_true, reduceCtorEq, bne_self_eq_false]

end Go.Proofs.Ytlkofdedkfmaeaa.Pure
