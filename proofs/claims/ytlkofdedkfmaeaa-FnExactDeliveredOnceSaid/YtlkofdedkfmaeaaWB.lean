/- Structs of many cells: loaded whole out of a row, stored whole into a block of the call's own, each as one step. Conditions: as each theorem says. -/
import Derived.Test.YtlkofdedkfmaeaaWX
import Derived.Laws.Rows
namespace Go.Proofs.Ytlkofdedkfmaeaa.X
open Go Go.RowKit Go.Proofs.YtlkofdedkfmaeaaW.PrintWords Go.Proofs.YtlkofdedkfmaeaaW.PrintWords.Kd
section
variable {P : Program} {ops : Array Oper} {rest : List Oper} {o : Oper} {a : Act} {Q : Exit → Act → World → Prop}
theorem loadL_run {w : World} {t : TypeId} {p : Operand} (ho : o.op = .load t p) {ad : Addr} (hp : a.eval p = .pointer (some ad)) {cs : List Value} {d : TypeDesc} (hu : P.underlying t = some d)
    (hd : (match d with | .struct _ | .array _ _ => true | _ => false) = true) (hi : (P.info? t).map (·.size) = some cs.length) (hc : ∀ j u, cs[j]? = some u → w.cell? (ad.add j) = some u) :
    (execOp a.eval o).run P w = .ok (.value (.agg cs.toArray)) w := by
  have hl := run_loadCells_list (P := P) w ad cs hc
  cases hq : P.info? t with
  | none => simp [hq] at hi
  | some i =>
    have hs : i.size = cs.length := by simpa [hq] using hi
    have hagg : (isAgg t).run P w = .ok true w := by
      unfold isAgg
      rw [Sem.run_bind, run_underlying hu w]
      cases d <;> simp_all
    simp [execOp, ho, hp, Instr.loadAt, Instr.sureAddr, loadVar, Sem.run_bind, hagg, sizeOf, typeInfo, hq, hs, hl]
theorem loadL_event {W : World} (hgd : o.guard = none) {N : Tmp} (_hd : o.dst = some N) {t : TypeId} {p : Operand} (ho : o.op = .load t p) {ad : Addr} (hp : a.eval p = .pointer (some ad)) {cs : List Value} {d : TypeDesc} (hu : P.underlying t = some d)
    (hd : (match d with | .struct _ | .array _ _ => true | _ => false) = true) (hi : (P.info? t).map (·.size) = some cs.length) (hc : ∀ j u, cs[j]? = some u → W.cell? (ad.add j) = some u)
    (h : wpList P ops Q rest (a.put o.dst (.agg cs.toArray)) W) : wpList P ops Q (o :: rest) a W :=
  Kd.event_run hgd (loadL_run ho hp hu hd hi hc) h
theorem fillL_event {W : World} (hgd : o.guard = none) {t e : TypeId} {p v : Operand} (ho : o.op = .store t p v) (hN : o.dst = none) {g : Nat} {old : Array Value} {cs : List Value}
    (hp : a.eval p = .pointer (some ⟨g, 0, none⟩)) {u : Value} (hu : a.eval v = u) (huc : u.cells.toList = cs) (hB : W.heap[g]? = some (.cells old e (0, 0))) (hsz : cs.length = old.size) (ht : (P.info? t).map (·.size) = some cs.length) (h1 : ∀ q ∈ cs, q.oneCell' = true)
    (h : ∀ w1, w1.heap[g]? = some (.cells cs.toArray e (0, 0)) → (∀ b, b ≠ g → w1.heap[b]? = W.heap[b]?) → (∀ N w0, Below N w0 W → N ≤ g → Below N w0 w1) → wpList P ops Q rest a w1) : wpList P ops Q (o :: rest) a W := by
  obtain ⟨i, hi, hs⟩ := Option.map_eq_some_iff.1 ht
  have hc : u.cells.size = i.size := by rw [hs, ← huc, Array.length_toList]
  have hst := run_storeCells_at P g 0 e cs 0 old W hB (by omega) h1
  have hz : old.toList.drop cs.length = [] := by rw [hsz]; simp
  simp only [Nat.zero_add, List.take_zero, List.nil_append, hz, List.append_nil] at hst
  have hrun : (execOp a.eval o).run P W = .ok .skip (W.setRow g cs.toArray) := by
    simp [execOp, ho, hp, hu, Instr.storeAt, Instr.sureAddr, storeVar, sizeOf, typeInfo, hi, hc, huc, hst]
  refine wpList_plain hgd fun K hK => ?_
  unfold Oper.wp
  rw [hrun]
  show K (a.put o.dst undef) _
  rw [hN]
  exact hK _ _ (h _ (setRow_heap W g _ _ e _ hB) (fun b hb => setRow_other W g b _ hb) (fun N w0 hb hg => below_setRow hb hg _))
/-- A store into a block of the call's own. -/
theorem putL_event {W : World} (hgd : o.guard = none) {t e : TypeId} {p v : Operand} (ho : o.op = .store t p v) (hN : o.dst = none) {g off : Nat} {old : Array Value} {cs new : List Value}
    (hp : a.eval p = .pointer (some ⟨g, off, none⟩)) {u : Value} (hu : a.eval v = u) (huc : u.cells.toList = cs) (hB : W.heap[g]? = some (.cells old e (0, 0))) (hfit : off + cs.length ≤ old.size) (ht : (P.info? t).map (·.size) = some cs.length) (h1 : ∀ q ∈ cs, q.oneCell' = true)
    (hnew : old.toList.take off ++ cs ++ old.toList.drop (off + cs.length) = new)
    (h : ∀ w1, w1.heap[g]? = some (.cells new.toArray e (0, 0)) → (∀ b, b ≠ g → w1.heap[b]? = W.heap[b]?) → (∀ N w0, Below N w0 W → N ≤ g → Below N w0 w1) → wpList P ops Q rest a w1) : wpList P ops Q (o :: rest) a W := by
  subst hnew
  obtain ⟨i, hi, hs⟩ := Option.map_eq_some_iff.1 ht
  have hc : u.cells.size = i.size := by rw [hs, ← huc, Array.length_toList]
  have hst := run_storeCells_at P g off e cs 0 old W hB (by omega) h1
  simp only [Nat.add_zero] at hst
  have hrun : (execOp a.eval o).run P W = .ok .skip (W.setRow g (old.toList.take off ++ cs ++ old.toList.drop (off + cs.length)).toArray) := by
    simp only [List.append_assoc] at hst ⊢
    simp [execOp, ho, hp, hu, Instr.storeAt, Instr.sureAddr, storeVar, sizeOf, typeInfo, hi, hc, huc, hst]
  refine wpList_plain hgd fun K hK => ?_
  unfold Oper.wp
  rw [hrun]
  show K (a.put o.dst undef) _
  rw [hN]
  exact hK _ _ (h _ (setRow_heap W g _ _ e _ hB) (fun b hb => setRow_other W g b _ hb) (fun N w0 hb hg => below_setRow hb hg _))
theorem R_shape {α : Type} {d : Kd α} {e base : Nat} {w : World} {ok : Nat → Prop} {v : Value} {xs : List α} (h : d.R e w base ok v xs) : ∃ A n c, v = .slice A n c := by
  obtain ⟨_, inner, hown, _⟩ := h
  rcases hown.2 with ⟨rfl, _⟩ | ⟨g, cap, cur, rfl, _⟩
  · exact ⟨_, _, _, rfl⟩
  · exact ⟨_, _, _, rfl⟩
theorem far_blk {w w1 : World} {g b : Nat} {x : Obj} (h : w.heap[b]? = some x) (hne : b ≠ g) (ho : ∀ b, b ≠ g → w1.heap[b]? = w.heap[b]?) : w1.heap[b]? = some x := (ho b hne).trans h
end
end Go.Proofs.Ytlkofdedkfmaeaa.X
