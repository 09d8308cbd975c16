/- What a call's own memory holds, as a list of items that lie apart: boxes, rows; each operation of a region as one step over that list. Conditions: as each theorem says. -/
import Derived.Test.YtlkofdedkfmaeaaWB
import Derived.Test.YtlkofdedkfmaeaaWApart
namespace Go.Proofs.Ytlkofdedkfmaeaa.SL
set_option linter.unusedVariables false
set_option linter.unusedSimpArgs false
open Go Go.RowKit Go.Proofs.YtlkofdedkfmaeaaW.PrintWords Go.Proofs.YtlkofdedkfmaeaaW.PrintLast Go.Proofs.YtlkofdedkfmaeaaW.PrintWords.Kd Go.Proofs.Ytlkofdedkfmaeaa.X
/-- What holds of the blocks S alone. -/
structure Itm where
  p : World → (Nat → Prop) → Prop
  mv : ∀ {w w1 : World} {S S' : Nat → Prop}, p w S → (∀ k, S k → k < w.heap.size → S' k ∧ w1.heap[k]? = w.heap[k]?) → p w1 S'
/-- A block of these cells. -/
def bx (g : Nat) (cs : List Value) (e : TypeId) : Itm where
  p := fun w S => S g ∧ w.heap[g]? = some (.cells cs.toArray e (0, 0))
  mv := fun h hm => by
    obtain ⟨h1, h2⟩ := hm g h.1 (blk_lt h.2)
    exact ⟨h1, h2.trans h.2⟩
/-- A row of the call's own; the elements' rows lie apart. -/
def rs {α : Type} (d : Kd α) (e : TypeId) (n0 : Nat) (v : Value) (xs : List α) : Itm where
  p := fun w S => Kd.S d e w n0 S v xs
  mv := fun h hm => by
    refine S_mono (ok := fun k => _) (S_move (S_bound h) (fun k hk => (hm k hk.1 hk.2.2.1).2)) (fun k hk => (hm k hk.1 hk.2.2.1).1)
/-- A row of the call's own. -/
def rr {α : Type} (d : Kd α) (e : TypeId) (n0 : Nat) (v : Value) (xs : List α) : Itm where
  p := fun w S => d.R e w n0 S v xs
  mv := fun h hm => R_mono (R_move (R_bound h) (fun k hk => (hm k hk.1 hk.2.2.1).2)) (fun k hk => (hm k hk.1 hk.2.2.1).1)
/-- A struct of the call's own, its rows anyhow. -/
def mi {α : Type} (d : Kd α) (n0 : Nat) (x : α) (cs : List Value) : Itm where
  p := fun w S => d.M w n0 S x cs
  mv := fun h hm => d.M_mono (fun k hk => (hm k hk.1 hk.2.2.1).1) (d.M_move (fun k hk => (hm k hk.1 hk.2.2.1).2) (d.M_bound h))
/-- The items lie apart, what was there when the call began is as it was. -/
def Inv (w0 : World) (L : List Itm) (W : World) : Prop :=
  Below w0.heap.size w0 W ∧ ∃ ow : Nat → Nat, (∀ k, ow k ≠ 0 → w0.heap.size ≤ k) ∧ ∀ (j : Nat) (it : Itm), L[j]? = some it → it.p W (fun k => ow k = j + 1)
section
variable {w0 W w1 : World} {L : List Itm}
theorem Inv.start (w0 : World) : Inv w0 [] w0 := ⟨Below.refl _ _, fun _ => 0, fun _ h => absurd rfl h, fun j it h => by simp at h⟩
theorem Inv.below (h : Inv w0 L W) : Below w0.heap.size w0 W := h.1
/-- The world grows; new items lie in what is new. -/
theorem Inv.grow (h : Inv w0 L W) (hb : Below W.heap.size W w1) : Inv w0 L w1 := by
  obtain ⟨h1, ow, h2, h3⟩ := h
  refine ⟨below_step h1 hb, ow, h2, fun j it hj => it.mv (h3 j it hj) (fun k hk hlt => ⟨hk, hb.block k hlt⟩)⟩
theorem Inv.add (h : Inv w0 L W) (hb : Below W.heap.size W w1) (it : Itm) (hi : it.p w1 (fun k => W.heap.size ≤ k)) : Inv w0 (L ++ [it]) w1 := by
  obtain ⟨h1, ow, h2, h3⟩ := h
  refine ⟨below_step h1 hb, fun k => if W.heap.size ≤ k then L.length + 1 else ow k, fun k hk => ?_, fun j it' hj => ?_⟩
  · dsimp only at hk
    split at hk
    · have := h1.size; omega
    · exact h2 k hk
  · rcases Nat.lt_or_ge j L.length with hl | hl
    · rw [List.getElem?_append_left hl] at hj
      refine it'.mv (h3 j it' hj) (fun k hk hlt => ⟨?_, hb.block k hlt⟩)
      show (if W.heap.size ≤ k then L.length + 1 else ow k) = j + 1
      rw [if_neg (by omega)]; exact hk
    · have hj' : j = L.length := by
        have := (List.getElem?_eq_some_iff.1 hj).1
        simp at this; omega
      subst hj'
      have : it = it' := by simpa using hj
      subst this
      refine it.mv hi (fun k hk hlt => ⟨?_, rfl⟩)
      show (if W.heap.size ≤ k then L.length + 1 else ow k) = L.length + 1
      rw [if_pos hk]
theorem Inv.get (h : Inv w0 L W) {j : Nat} {it : Itm} (hj : L[j]? = some it) : ∃ S, (∀ k, S k → w0.heap.size ≤ k) ∧ it.p W S := by
  obtain ⟨h1, ow, h2, h3⟩ := h
  exact ⟨_, fun k hk => h2 k (by rw [hk]; omega), h3 j it hj⟩
theorem Inv.box (h : Inv w0 L W) {j g : Nat} {cs : List Value} {e : TypeId} (hj : L[j]? = some (bx g cs e)) : W.heap[g]? = some (.cells cs.toArray e (0, 0)) := by
  obtain ⟨S, _, hp⟩ := h.get hj
  exact hp.2
theorem Inv.apart (h : Inv w0 L W) {i j : Nat} {a b : Itm} (hi : L[i]? = some a) (hj : L[j]? = some b) (hne : i ≠ j) : ∃ S T, (∀ k, S k → ¬ T k) ∧ (∀ k, S k → w0.heap.size ≤ k) ∧ (∀ k, T k → w0.heap.size ≤ k) ∧ a.p W S ∧ b.p W T := by
  obtain ⟨h1, ow, h2, h3⟩ := h
  refine ⟨_, _, fun k hk hk' => hne ?_, fun k hk => h2 k (by rw [hk]; omega), fun k hk => h2 k (by rw [hk]; omega), h3 i a hi, h3 j b hj⟩
  omega
/-- A box is written. -/
theorem Inv.put (h : Inv w0 L W) {j g : Nat} {cs new : List Value} {e : TypeId} (hj : L[j]? = some (bx g cs e)) (hg : w1.heap[g]? = some (.cells new.toArray e (0, 0))) (ho : ∀ b, b ≠ g → w1.heap[b]? = W.heap[b]?) (hb : ∀ N w0, Below N w0 W → N ≤ g → Below N w0 w1) : Inv w0 (L.set j (bx g new e)) w1 := by
  obtain ⟨h1, ow, h2, h3⟩ := h
  have hgo := (h3 j _ hj).1
  refine ⟨hb _ _ h1 (h2 g (by rw [show ow g = j + 1 from hgo]; omega)), ow, h2, fun i it hi => ?_⟩
  by_cases hij : j = i
  · subst hij
    have hl := (List.getElem?_eq_some_iff.1 hj).1
    rw [List.getElem?_set_self hl] at hi
    cases hi
    exact ⟨hgo, hg⟩
  · rw [List.getElem?_set_ne hij] at hi
    refine it.mv (h3 i it hi) (fun k hk _ => ⟨hk, ho k (fun e => ?_)⟩)
    subst e
    have : ow k = j + 1 := hgo
    have : ow k = i + 1 := hk
    omega
end
/-- The temporaries. -/
def A (E : List Value) : Act := ⟨E.toArray, []⟩
theorem A_put (E : List Value) (d : Nat) (v : Value) : (A E).put (some d) v = A (E.set d v) := by
  simp [A, Act.put]
theorem A_tmp (E : List Value) (t : Nat) : (A E).eval (.tmp t) = E.getD t undef := by simp [A, Act.eval]
theorem A_const (E : List Value) (v : Value) : (A E).eval (.const v) = v := rfl
theorem cells_agg (l : List Value) : (Value.agg l.toArray).cells.toList = l := rfl
theorem cells_int (k : IntKind) (n : Int) : (Value.int k n).cells.toList = [.int k n] := rfl
theorem cells_bool (b : Bool) : (Value.bool b).cells.toList = [.bool b] := rfl
theorem cells_slice (x : Option Addr) (n c : Nat) : (Value.slice x n c).cells.toList = [.slice x n c] := rfl
theorem cells_string (b : ByteArray) : (Value.string b).cells.toList = [.string b] := rfl
theorem cells_pointer (x : Option Addr) : (Value.pointer x).cells.toList = [.pointer x] := rfl
def binI (b : BinOp) (k : IntKind) (m n : Int) : Option Value :=
  match b with
  | .add => some (.int k (k.wrap (m + n)))
  | .sub => some (.int k (k.wrap (m - n)))
  | .mul => some (.int k (k.wrap (m * n)))
  | .lss => some (.bool (decide (m < n)))
  | .leq => some (.bool (decide (m ≤ n)))
  | .gtr => some (.bool (decide (m > n)))
  | .geq => some (.bool (decide (m ≥ n)))
  | .eql => some (.bool (decide (m = n)))
  | .neq => some (.bool (!decide (m = n)))
  | _ => none
section
variable {P : Program} {ops : Array Oper} {rest : List Oper} {o : Oper} {Q : Exit → Act → World → Prop} {E : List Value} {w0 W : World} {L : List Itm} {d : Tmp} {E' : List Value}
theorem ev_run {w1 : World} {v : Value} (hg : o.guard = none) (hd : o.dst = some d) (hrun : (execOp (A E).eval o).run P W = .ok (.value v) w1) (h : wpList P ops Q rest (A (E.set d v)) w1) : wpList P ops Q (o :: rest) (A E) W := by
  refine Kd.event_run hg hrun ?_
  rw [hd, A_put]
  exact h
theorem add_off (g off n : Nat) : (⟨g, off, none⟩ : Addr).add n = ⟨g, off + n, none⟩ := by unfold Addr.add; split <;> simp_all
theorem ev_fld (m : Nat) (hg : o.guard = none := by rfl) (hd : o.dst = some d := by rfl) {t : TypeId} {x : Operand} {f : Nat} (ho : o.op = .fieldAddr t x f := by rfl) {fs : Array Field} (hu : P.underlying t = some (.struct fs)) {fd : Field} (hf : fs[f]? = some fd := by rfl) (hs : (P.info? fd.type).any (fun i => decide (0 < i.size)) = true := by kernel_rfl) {g off : Nat} (hx : (A E).eval x = .pointer (some ⟨g, off, none⟩) := by rfl)
    (hm : off + fd.offset = m := by rfl) (hE : E.set d (.pointer (some ⟨g, m, none⟩)) = E' := by (try simp only [List.set_cons_succ, List.set_cons_zero]) <;> rfl)
    (h : wpList P ops Q rest (A E') W) : wpList P ops Q (o :: rest) (A E) W := by
  subst hE
  subst hm
  refine ev_run hg hd ?_ h
  obtain ⟨i, hi, hsz⟩ : ∃ i, P.info? fd.type = some i ∧ decide (0 < i.size) = true := by
    cases hq : P.info? fd.type with
    | none => rw [hq] at hs; cases hs
    | some i => rw [hq] at hs; exact ⟨i, rfl, hs⟩
  have hz : i.size ≠ 0 := by have := of_decide_eq_true hsz; omega
  simp [execOp, ho, hx, Instr.fieldAt, Sem.run_bind, run_underlying hu, hf, Instr.sureAddr, fieldPlace, sizeOf, typeInfo, hi, hz, add_off]
/-- One cell of a box. -/
theorem ev_ld (I : Inv w0 L W) (j : Nat) (hg : o.guard = none := by rfl) (hd : o.dst = some d := by rfl) {t : TypeId} {x : Operand} (ho : o.op = .load t x := by rfl) {ds : TypeDesc} (hu : P.underlying t = some ds) (hn : (match ds with | .struct _ | .array _ _ => true | _ => false) = false := by rfl) {g off : Nat} (hx : (A E).eval x = .pointer (some ⟨g, off, none⟩) := by rfl) {cs : List Value} {e : TypeId} (hj : L[j]? = some (bx g cs e) := by rfl) {v : Value} (hv : cs[off]? = some v := by rfl) (hE : E.set d v = E' := by (try simp only [List.set_cons_succ, List.set_cons_zero]) <;> rfl)
    (h : wpList P ops Q rest (A E') W) : wpList P ops Q (o :: rest) (A E) W := by
  subst hE
  refine ev_run hg hd ?_ h
  have hc : W.cell? ⟨g, off, none⟩ = some v := by
    rw [blk_cell (I.box hj)]; simpa using hv
  have hagg : (isAgg t).run P W = .ok false W := by
    unfold isAgg
    rw [Sem.run_bind, run_underlying hu W]
    cases ds <;> simp_all
  simp [execOp, ho, hx, Instr.loadAt, Instr.sureAddr, loadVar, Sem.run_bind, hagg, load, Sem.run, hc]
/-- Some cells of a box, as a struct. -/
theorem ev_ldn (I : Inv w0 L W) (j n : Nat) (hg : o.guard = none := by rfl) (hd : o.dst = some d := by rfl) {t : TypeId} {x : Operand} (ho : o.op = .load t x := by rfl) {ds : TypeDesc} (hu : P.underlying t = some ds) (hn : (match ds with | .struct _ | .array _ _ => true | _ => false) = true := by rfl) {g off : Nat} (hx : (A E).eval x = .pointer (some ⟨g, off, none⟩) := by rfl) {cs : List Value} {e : TypeId} (hj : L[j]? = some (bx g cs e) := by rfl) (hi : (P.info? t).map (·.size) = some n := by kernel_rfl) {vs : List Value} (hv : (cs.drop off).take n = vs := by (try simp only [List.take_succ_cons, List.take_zero, List.drop_succ_cons, List.drop_zero, List.cons_append, List.nil_append, List.append_nil, List.length_cons, List.length_nil, Nat.reduceAdd, List.drop_nil, List.take_nil]) <;> rfl) (hl : vs.length = n := by rfl) (hE : E.set d (.agg vs.toArray) = E' := by (try simp only [List.set_cons_succ, List.set_cons_zero]) <;> rfl)
    (h : wpList P ops Q rest (A E') W) : wpList P ops Q (o :: rest) (A E) W := by
  subst hE
  refine ev_run hg hd ?_ h
  refine loadL_run ho hx hu hn (by rw [hi, hl]) (fun k u hk => ?_)
  rw [add_off, blk_cell (I.box hj), ← hk, ← hv, List.getElem?_take, if_pos, List.getElem?_drop]
  · simp
  · have := (List.getElem?_eq_some_iff.1 hk).1; omega
/-- A new variable. -/
theorem ev_al (I : Inv w0 L W) (hg : o.guard = none := by rfl) (hd : o.dst = some d := by rfl) {t : TypeId} (ho : o.op = .alloc t := by rfl) {z : Value} {n b : Nat} (hi : (P.info? t).map (fun i => (i.zero, i.size, i.bytes)) = some (some z, n, b)) {cs : List Value} (hc : z.cells.toList = cs := by (try simp only [Go.Proofs.Ytlkofdedkfmaeaa.SL.cells_agg, Go.Proofs.Ytlkofdedkfmaeaa.SL.cells_int, Go.Proofs.Ytlkofdedkfmaeaa.SL.cells_bool, Go.Proofs.Ytlkofdedkfmaeaa.SL.cells_slice, Go.Proofs.Ytlkofdedkfmaeaa.SL.cells_string, Go.Proofs.Ytlkofdedkfmaeaa.SL.cells_pointer, List.toList_toArray]) <;> rfl)
    {E' : Nat → List Value} (hE : ∀ g, E.set d (.pointer (some ⟨g, 0, none⟩)) = E' g := by (intro g; simp only [List.set_cons_succ, List.set_cons_zero]; rfl)) {L' : Nat → List Itm} (hL : ∀ g, L ++ [bx g cs t] = L' g := by (intro g; simp only [List.cons_append, List.nil_append]; rfl))
    (h : ∀ g w1, Inv w0 (L' g) w1 → wpList P ops Q rest (A (E' g)) w1) : wpList P ops Q (o :: rest) (A E) W := by
  have e : z.cells = cs.toArray := by rw [← hc]
  obtain ⟨i, hi, hzz⟩ := Option.map_eq_some_iff.1 hi
  simp only [Prod.mk.injEq] at hzz
  have hz := hzz.1
  refine ev_run (w1 := W.alloc (.cells cs.toArray t (0, 0))) hg hd ?_ (by rw [hE]; exact h W.heap.size _ (by rw [← hL]; exact I.add (below_alloc (Below.refl _ _) _) _ ⟨Nat.le_refl _, blk_new W _⟩))
  simp [execOp, ho, Instr.alloc, zeroValue, typeInfo, hi, hz, newVar, newRow, newObj, e, Sem.run]
/-- A new variable of a value. -/
theorem ev_bx (I : Inv w0 L W) (hg : o.guard = none := by rfl) (hd : o.dst = some d := by rfl) {t : TypeId} {x : Operand} (ho : o.op = .box t x := by rfl) {u : Value} (hx : (A E).eval x = u := by (try simp only [Go.Proofs.Ytlkofdedkfmaeaa.SL.A_tmp, Go.Proofs.Ytlkofdedkfmaeaa.SL.A_const, List.set_cons_succ, List.set_cons_zero, List.getD_cons_succ, List.getD_cons_zero]) <;> rfl) {cs : List Value} (hc : u.cells.toList = cs := by (try simp only [Go.Proofs.Ytlkofdedkfmaeaa.SL.cells_agg, Go.Proofs.Ytlkofdedkfmaeaa.SL.cells_int, Go.Proofs.Ytlkofdedkfmaeaa.SL.cells_bool, Go.Proofs.Ytlkofdedkfmaeaa.SL.cells_slice, Go.Proofs.Ytlkofdedkfmaeaa.SL.cells_string, Go.Proofs.Ytlkofdedkfmaeaa.SL.cells_pointer, List.toList_toArray]) <;> rfl)
    {E' : Nat → List Value} (hE : ∀ g, E.set d (.pointer (some ⟨g, 0, none⟩)) = E' g := by (intro g; simp only [List.set_cons_succ, List.set_cons_zero]; rfl)) {L' : Nat → List Itm} (hL : ∀ g, L ++ [bx g cs t] = L' g := by (intro g; simp only [List.cons_append, List.nil_append]; rfl))
    (h : ∀ g w1, Inv w0 (L' g) w1 → wpList P ops Q rest (A (E' g)) w1) : wpList P ops Q (o :: rest) (A E) W := by
  have e : ((A E).eval x).cells = cs.toArray := by rw [← hc, hx]
  refine ev_run (w1 := W.alloc (.cells cs.toArray t (0, 0))) hg hd ?_ (by rw [hE]; exact h W.heap.size _ (by rw [← hL]; exact I.add (below_alloc (Below.refl _ _) _) _ ⟨Nat.le_refl _, blk_new W _⟩))
  simp [execOp, ho, Instr.box, newVar, newRow, newObj, e, Sem.run]
/-- A store into a box. -/
theorem ev_st (I : Inv w0 L W) (j : Nat) (hg : o.guard = none := by rfl) (hN : o.dst = none := by rfl) {t : TypeId} {p x : Operand} (ho : o.op = .store t p x := by rfl) {g off : Nat} (hp : (A E).eval p = .pointer (some ⟨g, off, none⟩) := by rfl) {u : Value} (hx : (A E).eval x = u := by (try simp only [Go.Proofs.Ytlkofdedkfmaeaa.SL.A_tmp, Go.Proofs.Ytlkofdedkfmaeaa.SL.A_const, List.set_cons_succ, List.set_cons_zero, List.getD_cons_succ, List.getD_cons_zero]) <;> rfl) {vs : List Value} (hu : u.cells.toList = vs := by (try simp only [Go.Proofs.Ytlkofdedkfmaeaa.SL.cells_agg, Go.Proofs.Ytlkofdedkfmaeaa.SL.cells_int, Go.Proofs.Ytlkofdedkfmaeaa.SL.cells_bool, Go.Proofs.Ytlkofdedkfmaeaa.SL.cells_slice, Go.Proofs.Ytlkofdedkfmaeaa.SL.cells_string, Go.Proofs.Ytlkofdedkfmaeaa.SL.cells_pointer, List.toList_toArray]) <;> rfl) {old : List Value} {e : TypeId} (hj : L[j]? = some (bx g old e) := by rfl) (hfit : off + vs.length ≤ old.length := by exact Nat.le_of_ble_eq_true rfl) (ht : (P.info? t).map (·.size) = some vs.length := by kernel_rfl) (h1 : vs.all (fun q => q.oneCell') = true := by rfl)
    {new : List Value} (hnew : old.take off ++ vs ++ old.drop (off + vs.length) = new := by (try simp only [List.take_succ_cons, List.take_zero, List.drop_succ_cons, List.drop_zero, List.cons_append, List.nil_append, List.append_nil, List.length_cons, List.length_nil, Nat.reduceAdd, List.drop_nil, List.take_nil]) <;> rfl) {L' : List Itm} (hL : L.set j (bx g new e) = L' := by (try simp only [List.set_cons_succ, List.set_cons_zero]) <;> rfl)
    (h : ∀ w1, Inv w0 L' w1 → wpList P ops Q rest (A E) w1) : wpList P ops Q (o :: rest) (A E) W := by
  subst hL
  exact putL_event hg ho hN hp hx hu (I.box hj) (by simpa using hfit) ht (fun q hq => List.all_eq_true.1 h1 q hq) (by simpa using hnew) (fun w1 a b c => h w1 (I.put hj a b c))
/-- A call. -/
theorem ev_call (I : Inv w0 L W) {f : FuncId} {args : Array Value} {R : Ending → World → Prop} (hc : Calls P f args W R) (hg : o.guard = none := by rfl) (hd : o.dst = some d := by rfl) {as : Array Operand} {ts : Array TypeId} (ho : o.op = .call { callee := .value (.func f), args := as, argTypes := ts } := by rfl) {fn : Func} (hf : P.funcs[f]? = some fn) (hname : (fn.name == "runtime.NumGoroutine") = false := by kernel_rfl) (hb : fn.body.isSome = true := by rfl) (hargs : as.map (A E).eval = args := by (try simp only [List.map_toArray, List.map_cons, List.map_nil, Go.Proofs.Ytlkofdedkfmaeaa.SL.A_tmp, Go.Proofs.Ytlkofdedkfmaeaa.SL.A_const, List.set_cons_succ, List.set_cons_zero, List.getD_cons_succ, List.getD_cons_zero]) <;> rfl)
    (h : ∀ e w', R e w' → ∃ v, e = .returned v ∧ wpList P ops Q rest (A (E.set d v)) w') : wpList P ops Q (o :: rest) (A E) W := by
  refine goesL_ (some d) hd hg hf hname hb args ho hargs (hc.mono fun e w' hh => ?_)
  obtain ⟨v, he, hw⟩ := h e w' hh
  exact ⟨v, he, by rw [A_put]; exact hw⟩
theorem ret_ {v : Value} {w1 : World} {E2 : List Value} (h : wpList P ops Q rest (A E') w1) (hE : E2 = E' := by (try simp only [List.set_cons_succ, List.set_cons_zero]) <;> rfl) : wpList P ops Q rest (A E2) w1 := by rw [hE]; exact h
/-- A result that is a box. -/
theorem leave {fn : Func} {R : Ending → World → Prop} (I : Inv w0 L W) (j : Nat) {t : TypeId} {q : Tmp} (hr : fn.results = #[.cell q t] := by rfl) {g : Nat} (hq : E.getD q undef = .pointer (some ⟨g, 0, none⟩) := by rfl) {cs : List Value} {e : TypeId} (hj : L[j]? = some (bx g cs e) := by rfl) {ds : TypeDesc} (hu : P.underlying t = some ds) (hn : (match ds with | .struct _ | .array _ _ => true | _ => false) = true := by rfl) (hi : (P.info? t).map (·.size) = some cs.length := by kernel_rfl)
    (h : R (.returned (.agg cs.toArray)) W) : bodyPost P fn R .ret (A E) W :=
  bodyPost_ret (results_cell_row hr _ _ g e cs.toArray (0, 0) ds (by simpa [A] using hq) (I.box hj) hu hn (by simpa using hi)) rfl h
theorem addS {α : Type} {d : Kd α} {e : TypeId} {ok : Nat → Prop} {v : Value} {xs : List α} {w1 : World} {L' : List Itm} (I : Inv w0 L W) (hb : Below W.heap.size W w1) (h : d.S e w1 W.heap.size ok v xs) (hL : L ++ [rs d e w0.heap.size v xs] = L' := by (try simp only [List.cons_append, List.nil_append]) <;> rfl) : Inv w0 L' w1 :=
  hL ▸ I.add hb _ (S_lower (S_mono (S_bound h) (fun _ hk => hk.2.1)) I.below.size)
theorem addR {α : Type} {d : Kd α} {e : TypeId} {ok : Nat → Prop} {v : Value} {xs : List α} {w1 : World} {L' : List Itm} (I : Inv w0 L W) (hb : Below W.heap.size W w1) (h : d.R e w1 W.heap.size ok v xs) (hL : L ++ [rr d e w0.heap.size v xs] = L' := by (try simp only [List.cons_append, List.nil_append]) <;> rfl) : Inv w0 L' w1 :=
  hL ▸ I.add hb _ (R_lower (R_mono (R_bound h) (fun _ hk => hk.2.1)) I.below.size)
theorem addM {α : Type} {d : Kd α} {ok : Nat → Prop} {x : α} {cs : List Value} {w1 : World} {L' : List Itm} (I : Inv w0 L W) (hb : Below W.heap.size W w1) (h : d.M w1 W.heap.size ok x cs) (hL : L ++ [mi d w0.heap.size x cs] = L' := by (try simp only [List.cons_append, List.nil_append]) <;> rfl) : Inv w0 L' w1 :=
  hL ▸ I.add hb _ (d.M_lower I.below.size (d.M_mono (fun _ hk => hk.2.1) (d.M_bound h)))
/-- A row, apart from the block of another. -/
theorem outS {α β : Type} {d : Kd α} {e : TypeId} {v : Value} {xs : List α} {d' : Kd β} {e' : TypeId} {v' : Value} {ys : List β} (I : Inv w0 L W) (i j : Nat) (hi : L[i]? = some (rs d e w0.heap.size v xs) := by rfl) (hj : L[j]? = some (rr d' e' w0.heap.size v' ys) := by rfl) (hne : i ≠ j := by decide) : d.S e W w0.heap.size (fun k => some k ≠ v'.ownBlock) v xs := by
  obtain ⟨S, T, h1, _, _, h2, h3⟩ := I.apart hi hj hne
  exact S_mono (show d.S e W w0.heap.size S v xs from h2) (fun k hk hh => h1 k hk (h3.1 k hh.symm))
theorem outR {α : Type} {d : Kd α} {e : TypeId} {v : Value} {xs : List α} (I : Inv w0 L W) (i : Nat) (hi : L[i]? = some (rr d e w0.heap.size v xs) := by rfl) : d.R e W w0.heap.size (fun _ => True) v xs := by
  obtain ⟨S, _, h2⟩ := I.get hi
  exact R_mono (show d.R e W w0.heap.size S v xs from h2) (fun _ _ => trivial)
theorem enter (n : Nat) {f : FuncId} {fn : Func} {c : Code} {l : List Value} {R : Ending → World → Prop} (hf : P.funcs[f]? = some fn) (hb : fn.body = some c := by rfl) (hn : fn.ntmps = l.length + n := by kernel_rfl) (hE : l ++ List.replicate n undef = E := by (try simp only [List.replicate_succ, List.replicate_zero, List.cons_append, List.nil_append]) <;> rfl)
    (h : c.wp P (bodyPost P fn R) (A E) W) : Calls P f l.toArray W R := by
  refine calls_of_wp hf hb ?_
  have e : l.toArray ++ Array.replicate (fn.ntmps - l.toArray.size) undef = E.toArray := by
    rw [← hE, hn]; apply Array.ext'; simp
  rw [e]; exact h
variable {a : Act}
theorem sg {id : Nat} {l : List Oper} {y : Code} (h : wpList P l.toArray (Exit.then (y.wp P Q) Q) l a W) : (Code.seq (.region id l.toArray false) y).wp P Q a W := wp_seq (wp_region_lit h)
theorem nx {y : Code} (h : y.wp P Q a W) : wpList P ops (Exit.then (y.wp P Q) Q) [] a W := h
/-! pure steps -/
theorem ev_mv (hg : o.guard = none := by rfl) (hd : o.dst = some d := by rfl) {x : Operand} (ho : o.op = .move x ∨ o.op = .assign x := by first | exact Or.inl rfl | exact Or.inr rfl) {v : Value} (hx : (A E).eval x = v := by (try simp only [Go.Proofs.Ytlkofdedkfmaeaa.SL.A_tmp, Go.Proofs.Ytlkofdedkfmaeaa.SL.A_const, List.set_cons_succ, List.set_cons_zero, List.getD_cons_succ, List.getD_cons_zero]) <;> rfl) (hE : E.set d v = E' := by (try simp only [List.set_cons_succ, List.set_cons_zero]) <;> rfl)
    (h : wpList P ops Q rest (A E') W) : wpList P ops Q (o :: rest) (A E) W := by
  subst hE
  refine ev_run hg hd ?_ h
  rcases ho with ho | ho <;> simp [execOp, ho, hx]
theorem ev_len (hg : o.guard = none := by rfl) (hd : o.dst = some d := by rfl) {x : Operand} {t : TypeId} (ho : o.op = .call { callee := .builtin .len, args := #[x], argTypes := #[t] } := by rfl) {e : TypeId} (hu : P.underlying t = some (.slice e)) {B : Option Addr} {n c : Nat} (hx : (A E).eval x = .slice B n c := by rfl) (hE : E.set d (.int .i64 (n : Int)) = E' := by (try simp only [List.set_cons_succ, List.set_cons_zero]) <;> rfl)
    (h : wpList P ops Q rest (A E') W) : wpList P ops Q (o :: rest) (A E) W := by
  subst hE
  refine ev_run hg hd ?_ h
  simp [execOp, ho, hx, resolve, invoke, builtin, Builtin.len_, run_underlying hu, Sem.run_bind, goInt]
theorem ev_bin (hg : o.guard = none := by rfl) (hd : o.dst = some d := by rfl) {b : BinOp} {t t' : TypeId} {x y : Operand} (ho : o.op = .binOp b t x y t' := by rfl) {k : IntKind} {m n : Int} (hx : (A E).eval x = .int k m := by rfl) (hy : (A E).eval y = .int k n := by rfl) {v : Value} (hv : binI b k m n = some v := by rfl) (hE : E.set d v = E' := by (try simp only [List.set_cons_succ, List.set_cons_zero]) <;> rfl)
    (h : wpList P ops Q rest (A E') W) : wpList P ops Q (o :: rest) (A E) W := by
  subst hE
  refine ev_run hg hd ?_ h
  cases b <;> simp only [binI, Option.some.injEq, reduceCtorEq] at hv <;> subst hv <;> (simp [execOp, ho, hx, hy, binOp, eqGuard, Op.intArith, Op.intCmp] <;> rfl)
theorem ev_not (hg : o.guard = none := by rfl) (hd : o.dst = some d := by rfl) {t : TypeId} {x : Operand} (ho : o.op = .unOp .not t x := by rfl) {b : Bool} (hx : (A E).eval x = .bool b := by rfl) (hE : E.set d (.bool (!b)) = E' := by (try simp only [List.set_cons_succ, List.set_cons_zero]) <;> rfl)
    (h : wpList P ops Q rest (A E') W) : wpList P ops Q (o :: rest) (A E) W := by
  subst hE
  refine ev_run hg hd ?_ h
  simp [execOp, ho, hx, Op.unary]
/-- The place of an element. -/
theorem ev_ix (hg : o.guard = none := by rfl) (hd : o.dst = some d := by rfl) {t : TypeId} {x y : Operand} (ho : o.op = .indexAddr t x y := by rfl) {e : TypeId} (hu : P.underlying t = some (.slice e)) {sz : Nat} (hs : (P.info? e).map (·.size) = some sz := by kernel_rfl) {ad : Addr} {n c : Nat} (hx : (A E).eval x = .slice (some ad) n c := by rfl) {k : IntKind} {i : Int} (hy : (A E).eval y = .int k i := by rfl) (h0 : 0 ≤ i) (h1 : i < n) (hE : E.set d (.pointer (some (ad.add (i.toNat * sz)))) = E' := by (try simp only [List.set_cons_succ, List.set_cons_zero]) <;> rfl)
    (h : wpList P ops Q rest (A E') W) : wpList P ops Q (o :: rest) (A E) W := by
  subst hE
  refine ev_run hg hd ?_ h
  obtain ⟨q, hq, hsz⟩ := Option.map_eq_some_iff.1 hs
  simp [execOp, ho, hx, hy, Instr.indexAt, asIntOf, Sem.run_bind, run_underlying hu, h0, h1, sizeOf, typeInfo, hq, hsz]
/-- A struct whose cells were there when the call began. -/
theorem ev_ldc (I : Inv w0 L W) (hg : o.guard = none := by rfl) (hd : o.dst = some d := by rfl) {t : TypeId} {x : Operand} (ho : o.op = .load t x := by rfl) {ds : TypeDesc} (hu : P.underlying t = some ds) (hn : (match ds with | .struct _ | .array _ _ => true | _ => false) = true := by rfl) {ad : Addr} (hx : (A E).eval x = .pointer (some ad) := by rfl) {cs : List Value} (hc : ∀ j u, cs[j]? = some u → w0.cell? (ad.add j) = some u) (hi : (P.info? t).map (·.size) = some cs.length := by kernel_rfl) (hE : E.set d (.agg cs.toArray) = E' := by (try simp only [List.set_cons_succ, List.set_cons_zero]) <;> rfl)
    (h : wpList P ops Q rest (A E') W) : wpList P ops Q (o :: rest) (A E) W := by
  subst hE
  refine ev_run hg hd ?_ h
  exact loadL_run ho hx hu hn hi (fun j u hj => pw_cell_below I.below (hc j u hj))
/-! rows -/
def off : Itm := ⟨fun _ _ => True, fun h _ => h⟩
theorem Inv.cut (I : Inv w0 L W) (n : Nat) {L' : List Itm} (hL : L.take n = L' := by (try simp only [List.take_succ_cons, List.take_zero]) <;> rfl) : Inv w0 L' W := by
  subst hL
  obtain ⟨h1, ow, h2, h3⟩ := I
  refine ⟨h1, ow, h2, fun j it hj => h3 j it ?_⟩
  rw [List.getElem?_take] at hj
  split at hj
  · exact hj
  · cases hj
theorem ev_make {α : Type} (dk : Kd α) (e : TypeId) (I : Inv w0 L W) (z0 : α) (hg : o.guard = none := by rfl) (hd : o.dst = some d := by rfl) {t : TypeId} {x y : Operand} (ho : o.op = .makeSlice t x y := by rfl) {n : Int} (hx : (A E).eval x = .int .i64 n := by rfl) (hy : (A E).eval y = .int .i64 n := by rfl) (ht : P.underlying t = some (.slice e)) {z : Value} {bytes : Nat} (hinfo : (P.info? e).map (fun i => (i.zero, i.size, i.bytes)) = some (some z, dk.sz, bytes)) (hz : z.cells.size = dk.sz := by rfl) (hs0 : 0 < dk.sz := by decide) (hb0 : 0 < bytes := by decide)
    (hzero : ∀ w b, dk.M w b (fun _ => False) z0 z.cells.toList) (h0 : 0 ≤ n) (hl : n.toNat * bytes ≤ 281474976710656)
    (h : ∀ g c w1, Inv w0 (L ++ [rr dk e w0.heap.size (.slice (some ⟨g, 0, none⟩) n.toNat c) (List.replicate n.toNat z0)]) w1 → wpList P ops Q rest (A (E.set d (.slice (some ⟨g, 0, none⟩) n.toNat c))) w1) : wpList P ops Q (o :: rest) (A E) W := by
  refine R_make dk w0.heap.size e hg hd t x y ho n hx hy ht z bytes hinfo hz hs0 hb0 z0 (ok := fun k => W.heap.size ≤ k) (okp := fun _ => False) (hzero W _) (fun _ hk => hk.elim) (Nat.le_refl _) h0 hl (Below.refl w0.heap.size W) I.below.size ?_
  intro v1 w1 hr hb hgr hat
  obtain ⟨b, hb1, _⟩ := hat
  obtain ⟨B, c, rfl⟩ := R_slice hr
  obtain ⟨ad, rfl⟩ : ∃ ad, B = some ad := by cases B with
    | none => simp [Value.ownBlock] at hb1
    | some ad => exact ⟨ad, rfl⟩
  obtain ⟨g, rfl⟩ := R_head hr
  rw [List.length_replicate] at hr ⊢
  rw [hd, A_put]
  exact h g c w1 (I.add ⟨hgr.os, hgr.tape, hgr.output, hgr.size, fun k hk => hgr.block k hk (by simp)⟩ _ hr)
/-- An element of a row of the call's own is written; the rows of what is written go into the row. -/
theorem ev_ste {α : Type} {dk : Kd α} {e : TypeId} {g n cap : Nat} {xs : List α} (I : Inv w0 L W) (j : Nat) (js : List Nat) (x' : α) {i : Int} (h0 : 0 ≤ i) (h1 : i < n) {seg : List Value} (hM : ∀ T : Nat → Prop, (∀ (m : Nat) (it : Itm), m ∈ js → L[m]? = some it → it.p W T) → dk.M W w0.heap.size T x' seg)
    (hj : L[j]? = some (rr dk e w0.heap.size (.slice (some ⟨g, 0, none⟩) n cap) xs) := by rfl) (hjs : j ∉ js := by decide) (hg : o.guard = none := by rfl) (hN : o.dst = none := by rfl) {t : TypeId} {p x : Operand} (ho : o.op = .store t p x := by rfl) (hp : (A E).eval p = .pointer (some ((⟨g, 0, none⟩ : Addr).add (i.toNat * dk.sz))) := by rfl) {u : Value} (hx : (A E).eval x = u := by (try simp only [Go.Proofs.Ytlkofdedkfmaeaa.SL.A_tmp, Go.Proofs.Ytlkofdedkfmaeaa.SL.A_const, List.set_cons_succ, List.set_cons_zero, List.getD_cons_succ, List.getD_cons_zero]) <;> rfl) (hu : u.cells.toList = seg := by (try simp only [Go.Proofs.Ytlkofdedkfmaeaa.SL.cells_agg, Go.Proofs.Ytlkofdedkfmaeaa.SL.cells_int, Go.Proofs.Ytlkofdedkfmaeaa.SL.cells_bool, Go.Proofs.Ytlkofdedkfmaeaa.SL.cells_slice, Go.Proofs.Ytlkofdedkfmaeaa.SL.cells_string, Go.Proofs.Ytlkofdedkfmaeaa.SL.cells_pointer, List.toList_toArray]) <;> rfl) (hl : seg.length = dk.sz := by rfl) (ht : (P.info? t).map (·.size) = some seg.length := by kernel_rfl) (ho1 : seg.all (fun q => q.oneCell') = true := by rfl)
    {L' : List Itm} (hL : js.foldl (fun l m => l.set m off) (L.set j (rr dk e w0.heap.size (.slice (some ⟨g, 0, none⟩) n cap) (xs.set i.toNat x'))) = L' := by (try simp only [List.foldl_cons, List.foldl_nil, List.set_cons_succ, List.set_cons_zero]) <;> rfl)
    (h : ∀ w1, Inv w0 L' w1 → wpList P ops Q rest (A E) w1) : wpList P ops Q (o :: rest) (A E) W := by
  subst hL
  obtain ⟨hB, ow, h2, h3⟩ := I
  have hrow : dk.R e W w0.heap.size (fun k => ow k = j + 1) (.slice (some ⟨g, 0, none⟩) n cap) xs := h3 j _ hj
  have hgo : ow g = j + 1 := hrow.1 g rfl
  let ow' : Nat → Nat := fun k => if ∃ m ∈ js, ow k = m + 1 then j + 1 else ow k
  have hj' : ∀ k, ow k = j + 1 → ow' k = j + 1 := fun k hk => by
    show (if _ then _ else _) = _
    split
    · rfl
    · exact hk
  have HO : dk.R e W w0.heap.size (fun k => ow' k = j + 1) (.slice (some ⟨g, 0, none⟩) n cap) xs := R_mono hrow hj'
  obtain ⟨c, hcl, _, hcc⟩ := R_getA HO x' i h0 h1
  have hT := hM (fun k => ∃ m ∈ js, ow k = m + 1) (fun m it hm hit => it.mv (h3 m it hit) (fun k hk _ => ⟨⟨m, hm, hk⟩, rfl⟩))
  refine R_store dk w0.heap.size hN hg t p x ho e (g := g) (n := n) (cap := cap) (o' := i.toNat * dk.sz) i 0 xs x' u seg c (fun k => ow' k = j + 1) (fun k => ∃ m ∈ js, ow k = m + 1) ?_ (by omega) hx hu ht (fun q hq => List.all_eq_true.1 ho1 q hq) HO h0 h1 hcl (fun j u hu => by have := hcc j u hu; rwa [add_off, Nat.zero_add] at this) (by omega) ?_ ?_ hB ?_
  · rw [hp, add_off, Nat.zero_add]
  · have hz : List.drop (0 + seg.length) c = [] := by rw [Nat.zero_add, hl, ← hcl, List.drop_length]
    rw [hz, List.take_zero, List.nil_append, List.append_nil]; exact hT
  · intro k hk
    refine ⟨?_, ?_⟩
    · show (if _ then _ else _) = _
      rw [if_pos hk]
    · rintro rfl
      obtain ⟨m, hm, hmo⟩ := hk
      have : m = j := by omega
      subst this; exact hjs hm
  · intro w1 hr hb hgr
    refine h w1 ⟨hb, ow', ?_, ?_⟩
    · intro k hk
      refine h2 k (fun hz => hk ?_)
      show (if _ then _ else _) = _
      rw [if_neg, hz]
      rintro ⟨m, hm, hmo⟩; omega
    · have key : ∀ (ms : List Nat) (M : List Itm), (∀ (q : Nat) (it : Itm), M[q]? = some it → q ∉ ms → it.p w1 (fun k => ow' k = q + 1)) → ∀ (q : Nat) (it : Itm), (ms.foldl (fun l m => l.set m off) M)[q]? = some it → it.p w1 (fun k => ow' k = q + 1) := by
        intro ms
        induction ms with
        | nil => exact fun M hM q it hq => hM q it hq (by simp)
        | cons a ms ih =>
          intro M hM q it hq
          rw [List.foldl_cons] at hq
          refine ih _ (fun q' it' hq' hnm => ?_) q it hq
          by_cases e : a = q'
          · subst e
            have hl := (List.getElem?_eq_some_iff.1 hq').1
            rw [List.length_set] at hl
            rw [List.getElem?_set_self hl] at hq'
            cases hq'
            exact trivial
          · rw [List.getElem?_set_ne e] at hq'
            exact hM q' it' hq' (by simp [Ne.symm e, hnm])
      refine key js _ (fun q it hq hnq => ?_)
      by_cases e : j = q
      · subst e
        have hl := (List.getElem?_eq_some_iff.1 hj).1
        rw [List.getElem?_set_self hl] at hq
        cases hq
        exact hr
      · rw [List.getElem?_set_ne e] at hq
        refine it.mv (h3 q it hq) (fun k hk hlt => ⟨?_, hgr.block k hlt ?_⟩)
        · show (if _ then _ else _) = _
          rw [if_neg]
          · exact hk
          · rintro ⟨m, hm, hmo⟩
            have : m = q := by omega
            subst this; exact hnq hm
        · intro he
          have : k = g := by injection he
          subst this; omega
/-! code -/
theorem cnd {c : Operand} {x y : Code} {b : Bool} (hx : (A E).eval c = .bool b) (ht : b = true → x.wp P Q (A E) W) (hf : b = false → y.wp P Q (A E) W) : (Code.cond c x y).wp P Q (A E) W := wp_cond_split hx ht hf
theorem cnd_t {c : Operand} {x y : Code} {p : Prop} [Decidable p] (hp : p) (hx : (A E).eval c = .bool (decide p) := by rfl) (h : x.wp P Q (A E) W) : (Code.cond c x y).wp P Q (A E) W := wp_cond_true (by rw [hx, decide_eq_true hp]) h
theorem cnd_f {c : Operand} {x y : Code} {p : Prop} [Decidable p] (hp : ¬ p) (hx : (A E).eval c = .bool (decide p) := by rfl) (h : y.wp P Q (A E) W) : (Code.cond c x y).wp P Q (A E) W := wp_cond_false (by rw [hx, decide_eq_false hp]) h
theorem lp {c : Code} (I : Nat → List Value → World → Prop) (n0 : Nat) (h0 : I n0 E W) (round : ∀ n E W, I n E W → c.wp P (Exit.then (fun a w => ∃ n' E', n' < n ∧ a = A E' ∧ I n' E' w) Q) (A E) W) : (Code.loop c).wp P Q (A E) W := by
  refine wp_loop_ghost (fun n a w => ∃ E, a = A E ∧ I n E w) n0 ⟨E, rfl, h0⟩ ?_
  rintro n a w ⟨E, rfl, h⟩
  refine wp_mono (round n E w h) ?_
  intro e a' w' hq
  cases e with
  | normal =>
    obtain ⟨n', E', h1, h2, h3⟩ := hq
    exact ⟨n', h1, E', h2, h3⟩
  | exit id => exact hq
  | goto l => exact hq
  | ret => exact hq
  | panic ch => exact hq
  | outgrown => exact hq
theorem nd {K : Act → World → Prop} (h : K a W) : wpList P ops (Exit.then K Q) [] a W := h
theorem leave1 {fn : Func} {R : Ending → World → Prop} {q : Tmp} (hr : fn.results = #[.tmp q] := by rfl) {v : Value} (hq : E.getD q undef = v := by (try simp only [List.set_cons_succ, List.set_cons_zero, List.getD_cons_succ, List.getD_cons_zero]) <;> rfl) (h : R (.returned v) W) : bodyPost P fn R .ret (A E) W :=
  bodyPost_ret (by rw [results_tmp hr]; simp only [A]; rw [← hq]; simp) rfl h
end
end Go.Proofs.Ytlkofdedkfmaeaa.SL
