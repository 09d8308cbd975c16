/- A call's walk as steps over what is told of the temporaries and of the call's own memory. Conditions: as each theorem says. -/
import Derived.Test.YtlkofdedkfmaeaaSL
namespace Go.Proofs.Ytlkofdedkfmaeaa.SE
open Go Go.RowKit Go.Proofs.YtlkofdedkfmaeaaW.PrintWords Go.Proofs.YtlkofdedkfmaeaaW.PrintLast Go.Proofs.YtlkofdedkfmaeaaW.PrintWords.Kd Go.Proofs.Ytlkofdedkfmaeaa.X Go.Proofs.Ytlkofdedkfmaeaa.SL
set_option linter.unusedVariables false
set_option linter.unusedSimpArgs false
abbrev Env := List (Nat × Value)
def look : Env → Nat → Option Value
  | [], _ => none
  | (k, v) :: l, t => match Nat.beq k t with
    | true => some v
    | false => look l t
def opv (env : Env) : Operand → Option Value
  | .tmp t => look env t
  | .const v => some v
  | .func f => some (.func (.func f) #[] #[])
  | .global g => some (.pointer (some ⟨g, 0, none⟩))
def opvs (env : Env) : List Operand → Option (List Value)
  | [] => some []
  | x :: xs => (opv env x).bind fun v => (opvs env xs).bind fun vs => some (v :: vs)
/-- The temporaries hold what is told. -/
structure Sat (n : Nat) (env : Env) (a : Act) : Prop where
  sz : a.tmps.size = n
  df : a.defers = []
  lk : ∀ t v, look env t = some v → a.tmps[t]? = some v
theorem Sat.opv {n : Nat} {env : Env} {a : Act} (s : Sat n env a) {x : Operand} {v : Value} (h : opv env x = some v) : a.eval x = v := by
  cases x with
  | tmp t => have := s.lk t v h; simp [Act.eval, Array.getD_eq_getD_getElem?, this]
  | const u => cases h; rfl
  | func f => cases h; rfl
  | global g => cases h; rfl
theorem Sat.opvs {n : Nat} {env : Env} {a : Act} (s : Sat n env a) : ∀ {xs : List Operand} {vs : List Value}, opvs env xs = some vs → xs.map a.eval = vs
  | [], vs, h => by cases h; rfl
  | x :: xs, vs, h => by
    simp only [SE.opvs] at h
    cases h1 : SE.opv env x with
    | none => rw [h1] at h; cases h
    | some v =>
      cases h2 : SE.opvs env xs with
      | none => rw [h1, h2] at h; cases h
      | some us =>
        rw [h1, h2] at h; cases h
        rw [List.map_cons, s.opv h1, s.opvs h2]
theorem Sat.put {n : Nat} {env : Env} {a : Act} (s : Sat n env a) {d : Nat} (hd : d < n) (v : Value) : Sat n ((d, v) :: env) (a.put (some d) v) := by
  refine ⟨by simp [Act.put, s.sz], s.df, fun t u h => ?_⟩
  simp only [look] at h
  show (a.tmps.setIfInBounds d v)[t]? = some u
  cases hb : Nat.beq d t with
  | true =>
    rw [hb] at h; cases h
    obtain rfl := Nat.eq_of_beq_eq_true hb
    rw [Array.getElem?_setIfInBounds_self_of_lt (by rw [s.sz]; exact hd)]
  | false =>
    rw [hb] at h
    have hne : d ≠ t := fun e => by subst e; rw [Nat.beq_refl] at hb; cases hb
    rw [Array.getElem?_setIfInBounds_ne hne]
    exact s.lk t u h
def lookAll (env : Env) : Env → Bool
  | [] => true
  | _ :: _ => true
theorem Sat.sub {n : Nat} {env env' : Env} {a : Act} (s : Sat n env a) (h : ∀ t v, look env' t = some v → look env t = some v) : Sat n env' a := ⟨s.sz, s.df, fun t v hv => s.lk t v (h t v hv)⟩
/-- Told of less: each place by a look. -/
theorem sub_nil (env : Env) : ∀ t v, look [] t = some v → look env t = some v := fun _ _ h => by cases h
theorem sub_cons {env env' : Env} {k : Nat} {u : Value} (hk : look env k = some u) (h : ∀ t v, look env' t = some v → look env t = some v) : ∀ t v, look ((k, u) :: env') t = some v → look env t = some v := by
  intro t v hv
  simp only [look] at hv
  cases hb : Nat.beq k t with
  | true => rw [hb] at hv; cases hv; obtain rfl := Nat.eq_of_beq_eq_true hb; exact hk
  | false => rw [hb] at hv; exact h t v hv
section
variable {P : Program} {ops : Array Oper} {rest : List Oper} {o : Oper} {Q : Exit → Act → World → Prop} {n : Nat} {env : Env} {w0 : World} {L : List Itm} {d : Tmp}
def WL (P : Program) (ops : Array Oper) (Q : Exit → Act → World → Prop) (rest : List Oper) (n : Nat) (env : Env) (w0 : World) (L : List Itm) : Bool → Prop
  | false => ∀ a W, Sat n env a → Inv w0 L W → wpList P ops Q rest a W
  | true => ∀ a, Sat n env a → wpQuiet P ops (Inv w0 L) (fun a' => ∀ w', Inv w0 L w' → Q .normal a' w') rest a
def WC (P : Program) (c : Code) (Q : Exit → Act → World → Prop) (n : Nat) (env : Env) (w0 : World) (L : List Itm) : Prop := ∀ a W, Sat n env a → Inv w0 L W → c.wp P Q a W
theorem st_run {q : Bool} {v : Value} (hg : o.guard = none) (hd : o.dst = some d) (hn : Nat.blt d n = true) (hrun : ∀ a W, Sat n env a → Inv w0 L W → (execOp a.eval o).run P W = .ok (.value v) W) (h : WL P ops Q rest n ((d, v) :: env) w0 L q) : WL P ops Q (o :: rest) n env w0 L q := by
  cases q with
  | false =>
    intro a W s I
    refine Kd.event_run hg (hrun a W s I) ?_
    rw [hd]
    exact h _ _ (s.put (Nat.le_of_ble_eq_true hn) v) I
  | true =>
    intro a s
    unfold wpQuiet
    rw [if_pos (by simp [Region.wanted, hg])]
    refine ⟨v, fun W I => ?_, ?_⟩
    · unfold Oper.quietAt
      rw [hrun a W s I]
      exact ⟨rfl, rfl⟩
    · rw [hd]; exact h _ (s.put (Nat.le_of_ble_eq_true hn) v)
/-- An operation behind a guard that holds. -/
theorem gt {q : Bool} {g : Nat} {b : Bool} {t : Nat} (hg : o.guard = some (g, b) := by rfl) (ht : (ops[g]?).bind (·.dst) = some t := by rfl) (hl : look env t = some (.bool b) := by rfl) {o' : Oper} (ho' : { o with guard := none } = o' := by rfl) (h : WL P ops Q (o' :: rest) n env w0 L q) : WL P ops Q (o :: rest) n env w0 L q := by
  subst ho'
  have hw : ∀ a, Sat n env a → Region.wanted o (yielded ops a.tmps) = true := by
    intro a s
    have := s.lk t _ hl
    simp [Region.wanted, hg, yielded, ht, this]
  cases q with
  | false =>
    intro a W s I
    have := h a W s I
    unfold wpList at this ⊢
    rw [if_pos (by simp [Region.wanted])] at this
    rw [if_pos (hw a s)]
    exact this
  | true =>
    intro a s
    have := h a s
    unfold wpQuiet at this ⊢
    rw [if_pos (by simp [Region.wanted])] at this
    rw [if_pos (hw a s)]
    exact this
/-- .. that does not hold. -/
theorem gf {q : Bool} {g : Nat} {b b' : Bool} {t : Nat} (hg : o.guard = some (g, b) := by rfl) (ht : (ops[g]?).bind (·.dst) = some t := by rfl) (hl : look env t = some (.bool b') := by rfl) (hb : (b' == b) = false := by rfl) (hd : o.dst = some d := by rfl) (hn : Nat.blt d n = true := by rfl) (h : WL P ops Q rest n ((d, undef) :: env) w0 L q) : WL P ops Q (o :: rest) n env w0 L q := by
  have hw : ∀ a, Sat n env a → Region.wanted o (yielded ops a.tmps) = false := by
    intro a s
    have := s.lk t _ hl
    cases b <;> cases b' <;> simp_all [Region.wanted, yielded]
  cases q with
  | false =>
    intro a W s I
    unfold wpList
    rw [if_neg (by rw [hw a s]; simp), hd]
    exact h _ _ (s.put (Nat.le_of_ble_eq_true hn) _) I
  | true =>
    intro a s
    unfold wpQuiet
    rw [if_neg (by rw [hw a s]; simp), hd]
    exact h _ (s.put (Nat.le_of_ble_eq_true hn) _)
theorem mv {q_ : Bool} (hg : o.guard = none := by rfl) (hd : o.dst = some d := by rfl) (hn : Nat.blt d n = true := by rfl) {x : Operand} (ho : o.op = .move x ∨ o.op = .assign x := by first | exact Or.inl rfl | exact Or.inr rfl) {v : Value} (hx : opv env x = some v := by rfl) (h : WL P ops Q rest n ((d, v) :: env) w0 L q_) : WL P ops Q (o :: rest) n env w0 L q_ :=
  st_run hg hd hn (fun a W s I => by rcases ho with ho | ho <;> simp [execOp, ho, s.opv hx]) h
theorem len {q_ : Bool} (hg : o.guard = none := by rfl) (hd : o.dst = some d := by rfl) (hn : Nat.blt d n = true := by rfl) {x : Operand} {t : TypeId} (ho : o.op = .call { callee := .builtin .len, args := #[x], argTypes := #[t] } := by rfl) {e : TypeId} (hu : P.underlying t = some (.slice e)) {B : Option Addr} {m c : Nat} (hx : opv env x = some (.slice B m c) := by rfl) (h : WL P ops Q rest n ((d, .int .i64 (m : Int)) :: env) w0 L q_) : WL P ops Q (o :: rest) n env w0 L q_ :=
  st_run hg hd hn (fun a W s I => by simp [execOp, ho, s.opv hx, resolve, invoke, builtin, Builtin.len_, run_underlying hu, Sem.run_bind, goInt]) h
theorem slen {q_ : Bool} (hg : o.guard = none := by rfl) (hd : o.dst = some d := by rfl) (hn : Nat.blt d n = true := by rfl) {x : Operand} {t : TypeId} (ho : o.op = .call { callee := .builtin .len, args := #[x], argTypes := #[t] } := by rfl) (hu : P.underlying t = some .string) {b : ByteArray} (hx : opv env x = some (.string b) := by rfl) (h : WL P ops Q rest n ((d, .int .i64 (b.size : Int)) :: env) w0 L q_) : WL P ops Q (o :: rest) n env w0 L q_ :=
  st_run hg hd hn (fun a W s I => by simp [execOp, ho, s.opv hx, resolve, invoke, builtin, Builtin.len_, run_underlying hu, Sem.run_bind, goInt]) h
def wr : IntKind → Int → Int
  | .i64, n => wrap64 n
  | k, n => k.wrap n
theorem wr_eq (k : IntKind) (n : Int) : k.wrap n = wr k n := by cases k <;> first | rfl | exact i64_w n
def bn (b : BinOp) (k : IntKind) (m n : Int) : Option Value :=
  match b with
  | .add => some (.int k (wr k (m + n)))
  | .sub => some (.int k (wr k (m - n)))
  | .mul => some (.int k (wr k (m * n)))
  | .lss => some (.bool (decide (m < n)))
  | .leq => some (.bool (decide (m ≤ n)))
  | .gtr => some (.bool (decide (m > n)))
  | .geq => some (.bool (decide (m ≥ n)))
  | .eql => some (.bool (decide (m = n)))
  | .neq => some (.bool (!decide (m = n)))
  | _ => none
theorem bin {q_ : Bool} (hg : o.guard = none := by rfl) (hd : o.dst = some d := by rfl) (hn : Nat.blt d n = true := by rfl) {b : BinOp} {t t' : TypeId} {x y : Operand} (ho : o.op = .binOp b t x y t' := by rfl) {k : IntKind} {p q : Int} (hx : opv env x = some (.int k p) := by rfl) (hy : opv env y = some (.int k q) := by rfl) {v : Value} (hv : bn b k p q = some v := by rfl) (h : WL P ops Q rest n ((d, v) :: env) w0 L q_) : WL P ops Q (o :: rest) n env w0 L q_ :=
  st_run hg hd hn (fun a W s I => by
    cases b <;> simp only [bn, Option.some.injEq, reduceCtorEq] at hv <;> subst hv <;> (simp [execOp, ho, s.opv hx, s.opv hy, binOp, eqGuard, Op.intArith, Op.intCmp, wr_eq] <;> rfl)) h
/-- A division by what is not 0. -/
theorem quo {q_ : Bool} (hg : o.guard = none := by rfl) (hd : o.dst = some d := by rfl) (hn : Nat.blt d n = true := by rfl) {t t' : TypeId} {x y : Operand} (ho : o.op = .binOp .quo t x y t' := by rfl) {k : IntKind} {p q : Int} (hx : opv env x = some (.int k p) := by rfl) (hy : opv env y = some (.int k q) := by rfl) (hq : q ≠ 0) (h : WL P ops Q rest n ((d, .int k (wr k (p.tdiv q))) :: env) w0 L q_) : WL P ops Q (o :: rest) n env w0 L q_ :=
  st_run hg hd hn (fun a W s I => by simp [execOp, ho, s.opv hx, s.opv hy, binOp, eqGuard, Op.intDiv, hq, wr_eq]) h
theorem rem {q_ : Bool} (hg : o.guard = none := by rfl) (hd : o.dst = some d := by rfl) (hn : Nat.blt d n = true := by rfl) {t t' : TypeId} {x y : Operand} (ho : o.op = .binOp .rem t x y t' := by rfl) {k : IntKind} {p q : Int} (hx : opv env x = some (.int k p) := by rfl) (hy : opv env y = some (.int k q) := by rfl) (hq : q ≠ 0) (h : WL P ops Q rest n ((d, .int k (p.tmod q)) :: env) w0 L q_) : WL P ops Q (o :: rest) n env w0 L q_ :=
  st_run hg hd hn (fun a W s I => by simp [execOp, ho, s.opv hx, s.opv hy, binOp, eqGuard, Op.intDiv, hq]) h
theorem not_ {q_ : Bool} (hg : o.guard = none := by rfl) (hd : o.dst = some d := by rfl) (hn : Nat.blt d n = true := by rfl) {t : TypeId} {x : Operand} (ho : o.op = .unOp .not t x := by rfl) {b : Bool} (hx : opv env x = some (.bool b) := by rfl) (h : WL P ops Q rest n ((d, .bool (!b)) :: env) w0 L q_) : WL P ops Q (o :: rest) n env w0 L q_ :=
  st_run hg hd hn (fun a W s I => by simp [execOp, ho, s.opv hx, Op.unary]) h
/-- One of two. -/
theorem pick {q_ : Bool} (hg : o.guard = none := by rfl) (hd : o.dst = some d := by rfl) (hn : Nat.blt d n = true := by rfl) {c x y : Operand} (ho : o.op = .pick c x y := by rfl) {b : Bool} (hc : opv env c = some (.bool b) := by rfl) {v : Value} (hx : opv env (if b then x else y) = some v) (h : WL P ops Q rest n ((d, v) :: env) w0 L q_) : WL P ops Q (o :: rest) n env w0 L q_ :=
  st_run hg hd hn (fun a W s I => by cases b <;> simp [execOp, ho, s.opv hc, asBool] at hx ⊢ <;> exact s.opv hx) h
/-- A field's place in a box. -/
theorem fld {q_ : Bool} (m : Nat) (hg : o.guard = none := by rfl) (hd : o.dst = some d := by rfl) (hn : Nat.blt d n = true := by rfl) {t : TypeId} {x : Operand} {f : Nat} (ho : o.op = .fieldAddr t x f := by rfl) {fs : Array Field} (hu : P.underlying t = some (.struct fs)) {fd : Field} (hf : fs[f]? = some fd := by rfl) (hs : (P.info? fd.type).any (fun i => decide (0 < i.size)) = true := by kernel_rfl) {g off : Nat} (hx : opv env x = some (.pointer (some ⟨g, off, none⟩)) := by rfl) (hm : off + fd.offset = m := by rfl)
    (h : WL P ops Q rest n ((d, .pointer (some ⟨g, m, none⟩)) :: env) w0 L q_) : WL P ops Q (o :: rest) n env w0 L q_ := by
  subst hm
  refine st_run hg hd hn (fun a W s I => ?_) h
  obtain ⟨i, hi, hsz⟩ : ∃ i, P.info? fd.type = some i ∧ decide (0 < i.size) = true := by
    cases hq : P.info? fd.type with
    | none => rw [hq] at hs; cases hs
    | some i => rw [hq] at hs; exact ⟨i, rfl, hs⟩
  have hz : i.size ≠ 0 := by have := of_decide_eq_true hsz; omega
  simp [execOp, ho, s.opv hx, Instr.fieldAt, Sem.run_bind, run_underlying hu, hf, Instr.sureAddr, fieldPlace, sizeOf, typeInfo, hi, hz, add_off]
def get? {α : Type} : List α → Nat → Option α
  | [], _ => none
  | x :: _, 0 => some x
  | _ :: l, k + 1 => get? l k
theorem get?_eq {α : Type} : ∀ (l : List α) (k : Nat), get? l k = l[k]?
  | [], _ => rfl
  | _ :: _, 0 => rfl
  | _ :: l, k + 1 => by simp [get?, get?_eq l k]
def cell : List Value → Nat → Option Value
  | [], _ => none
  | x :: _, 0 => some x
  | _ :: l, k + 1 => cell l k
theorem cell_eq : ∀ (l : List Value) (k : Nat), cell l k = l[k]?
  | [], _ => rfl
  | _ :: _, 0 => rfl
  | _ :: l, k + 1 => by simp [cell, cell_eq l k]
/-- m cells from off on. -/
def cut : List Value → Nat → Nat → Option (List Value)
  | _, 0, 0 => some []
  | x :: l, 0, m + 1 => (cut l 0 m).bind fun r => some (x :: r)
  | _ :: l, off + 1, m => cut l off m
  | [], _, _ => none
theorem cut_eq : ∀ (l : List Value) (off m : Nat) (r : List Value), cut l off m = some r → (l.drop off).take m = r ∧ r.length = m
  | [], 0, 0, r, h => by cases h; simp
  | x :: l, 0, 0, r, h => by cases h; simp
  | x :: l, 0, m + 1, r, h => by
    simp only [cut] at h
    cases hc : cut l 0 m with
    | none => rw [hc] at h; cases h
    | some q => rw [hc] at h; cases h; obtain ⟨h1, h2⟩ := cut_eq l 0 m q hc; simp at h1; simp [h1, h2]
  | x :: l, off + 1, m, r, h => by simp only [cut] at h; simpa using cut_eq l off m r h
  | [], 0, m + 1, r, h => by cases h
  | [], off + 1, m, r, h => by cases h
/-- vs laid from off on. -/
def lay : List Value → Nat → List Value → Option (List Value)
  | l, 0, [] => some l
  | _ :: l, 0, v :: vs => (lay l 0 vs).bind fun r => some (v :: r)
  | x :: l, off + 1, vs => (lay l off vs).bind fun r => some (x :: r)
  | [], 0, _ :: _ => none
  | [], _ + 1, _ => none
theorem lay_eq : ∀ (l : List Value) (off : Nat) (vs r : List Value), lay l off vs = some r → off + vs.length ≤ l.length ∧ l.take off ++ vs ++ l.drop (off + vs.length) = r
  | l, 0, [], r, h => by cases l <;> cases h <;> simp
  | x :: l, 0, v :: vs, r, h => by
    simp only [lay] at h
    cases hc : lay l 0 vs with
    | none => rw [hc] at h; cases h
    | some q =>
      rw [hc] at h; cases h
      obtain ⟨h1, h2⟩ := lay_eq l 0 vs q hc
      simp only [Nat.zero_add, List.take_zero, List.nil_append] at h1 h2
      refine ⟨by simp; omega, ?_⟩
      simp [h2]
  | x :: l, off + 1, vs, r, h => by
    simp only [lay] at h
    cases hc : lay l off vs with
    | none => rw [hc] at h; cases h
    | some q =>
      rw [hc] at h; cases h
      obtain ⟨h1, h2⟩ := lay_eq l off vs q hc
      refine ⟨by simp; omega, ?_⟩
      rw [Nat.add_right_comm]
      simp [h2]
  | [], 0, _ :: _, r, h => by cases h
  | [], _ + 1, _, r, h => by cases h
def put? : List Itm → Nat → Itm → Option (List Itm)
  | [], _, _ => none
  | _ :: l, 0, y => some (y :: l)
  | x :: l, k + 1, y => (put? l k y).bind fun r => some (x :: r)
theorem put?_eq : ∀ (l : List Itm) (k : Nat) (y : Itm) (r : List Itm), put? l k y = some r → l.set k y = r
  | [], _, _, r, h => by cases h
  | x :: l, 0, y, r, h => by cases h; rfl
  | x :: l, k + 1, y, r, h => by
    simp only [put?] at h
    cases hc : put? l k y with
    | none => rw [hc] at h; cases h
    | some q => rw [hc] at h; cases h; simp [put?_eq l k y q hc]
def add? : List Itm → Itm → Option (List Itm)
  | [], y => some [y]
  | x :: l, y => (add? l y).bind fun r => some (x :: r)
theorem add?_eq : ∀ (l : List Itm) (y : Itm) (r : List Itm), add? l y = some r → l ++ [y] = r
  | [], y, r, h => by cases h; rfl
  | x :: l, y, r, h => by
    simp only [add?] at h
    cases hc : add? l y with
    | none => rw [hc] at h; cases h
    | some q => rw [hc] at h; cases h; simp [add?_eq l y q hc]
def cellsOf : Value → Option (List Value)
  | .agg cs => some cs.toList
  | .tuple _ => none
  | v => some [v]
theorem cellsOf_eq {v : Value} {cs : List Value} (h : cellsOf v = some cs) : v.cells = cs.toArray := by
  cases v <;> simp [cellsOf] at h <;> subst h <;> rfl
def isAg : TypeDesc → Bool
  | .struct _ | .array _ _ => true
  | _ => false
theorem isAg_eq (ds : TypeDesc) : (match ds with | .struct _ | .array _ _ => true | _ => false) = isAg ds := by cases ds <;> rfl
theorem one_run {W : World} {t : TypeId} {p : Operand} {a : Act} (ho : o.op = .load t p) {ad : Addr} (hp : a.eval p = .pointer (some ad)) {ds : TypeDesc} (hu : P.underlying t = some ds) (hn : isAg ds = false) {v : Value} (hc : W.cell? ad = some v) : (execOp a.eval o).run P W = .ok (.value v) W := by
  have hagg : (isAgg t).run P W = .ok false W := by
    unfold isAgg
    rw [Sem.run_bind, run_underlying hu W]
    cases ds <;> simp_all [isAg]
  simp [execOp, ho, hp, Instr.loadAt, Instr.sureAddr, loadVar, Sem.run_bind, hagg, load, Sem.run, hc]
/-- One cell of a box. -/
theorem ld {q_ : Bool} (j : Nat) (hg : o.guard = none := by rfl) (hd : o.dst = some d := by rfl) (hn : Nat.blt d n = true := by rfl) {t : TypeId} {x : Operand} (ho : o.op = .load t x := by rfl) {ds : TypeDesc} (hu : P.underlying t = some ds) (ha : isAg ds = false := by rfl) {g off : Nat} (hx : opv env x = some (.pointer (some ⟨g, off, none⟩)) := by rfl) {cs : List Value} {e : TypeId} (hj : get? L j = some (bx g cs e) := by rfl) {v : Value} (hv : cell cs off = some v := by rfl)
    (h : WL P ops Q rest n ((d, v) :: env) w0 L q_) : WL P ops Q (o :: rest) n env w0 L q_ :=
  st_run hg hd hn (fun a W s I => one_run ho (s.opv hx) hu ha (by rw [blk_cell (I.box (by rw [← get?_eq]; exact hj))]; rw [cell_eq] at hv; simpa using hv)) h
/-- m cells of a box, as a struct. -/
theorem ldn {q_ : Bool} (j m : Nat) (hg : o.guard = none := by rfl) (hd : o.dst = some d := by rfl) (hn : Nat.blt d n = true := by rfl) {t : TypeId} {x : Operand} (ho : o.op = .load t x := by rfl) {ds : TypeDesc} (hu : P.underlying t = some ds) (ha : isAg ds = true := by rfl) {g off : Nat} (hx : opv env x = some (.pointer (some ⟨g, off, none⟩)) := by rfl) {cs : List Value} {e : TypeId} (hj : get? L j = some (bx g cs e) := by rfl) (hi : (P.info? t).map (·.size) = some m := by kernel_rfl) {vs : List Value} (hv : cut cs off m = some vs := by rfl)
    (h : WL P ops Q rest n ((d, .agg vs.toArray) :: env) w0 L q_) : WL P ops Q (o :: rest) n env w0 L q_ := by
  refine st_run hg hd hn (fun a W s I => ?_) h
  obtain ⟨h1, h2⟩ := cut_eq _ _ _ _ hv
  refine loadL_run ho (s.opv hx) hu (by cases ds <;> simp_all [isAg]) (by rw [hi, h2]) (fun k u hk => ?_)
  rw [add_off, blk_cell (I.box (by rw [← get?_eq]; exact hj)), ← hk, ← h1, List.getElem?_take, if_pos, List.getElem?_drop]
  · simp
  · have := (List.getElem?_eq_some_iff.1 hk).1; omega
theorem new_run (hg : o.guard = none) (hd : o.dst = some d) (hn : Nat.blt d n = true) {cs : List Value} {t : TypeId} (hrun : ∀ a W, Sat n env a → (execOp a.eval o).run P W = .ok (.value (.pointer (some ⟨W.heap.size, 0, none⟩))) (W.alloc (.cells cs.toArray t (0, 0)))) {L' : Nat → List Itm} (hL : ∀ g, add? L (bx g cs t) = some (L' g))
    (h : ∀ g, WL P ops Q rest n ((d, .pointer (some ⟨g, 0, none⟩)) :: env) w0 (L' g) false) : WL P ops Q (o :: rest) n env w0 L false := by
  intro a W s I
  refine Kd.event_run hg (hrun a W s) ?_
  rw [hd]
  refine h W.heap.size _ _ (s.put (Nat.le_of_ble_eq_true hn) _) ?_
  rw [← add?_eq _ _ _ (hL W.heap.size)]
  exact I.add (below_alloc (Below.refl _ _) _) _ ⟨Nat.le_refl _, blk_new W _⟩
/-- A new variable. -/
theorem al (hg : o.guard = none := by rfl) (hd : o.dst = some d := by rfl) (hn : Nat.blt d n = true := by rfl) {t : TypeId} (ho : o.op = .alloc t := by rfl) {z : Value} {m b : Nat} (hi : (P.info? t).map (fun i => (i.zero, i.size, i.bytes)) = some (some z, m, b)) {cs : List Value} (hc : cellsOf z = some cs := by rfl) {L' : Nat → List Itm} (hL : ∀ g, add? L (bx g cs t) = some (L' g) := by exact fun _ => rfl)
    (h : ∀ g, WL P ops Q rest n ((d, .pointer (some ⟨g, 0, none⟩)) :: env) w0 (L' g) false) : WL P ops Q (o :: rest) n env w0 L false := by
  obtain ⟨i, hi, hzz⟩ := Option.map_eq_some_iff.1 hi
  simp only [Prod.mk.injEq] at hzz
  exact new_run hg hd hn (fun a W s => by simp [execOp, ho, Instr.alloc, zeroValue, typeInfo, hi, hzz.1, newVar, newRow, newObj, cellsOf_eq hc, Sem.run]) hL h
/-- A new variable of a value. -/
theorem nb (hg : o.guard = none := by rfl) (hd : o.dst = some d := by rfl) (hn : Nat.blt d n = true := by rfl) {t : TypeId} {x : Operand} (ho : o.op = .box t x := by rfl) {u : Value} (hx : opv env x = some u := by rfl) {cs : List Value} (hc : cellsOf u = some cs := by rfl) {L' : Nat → List Itm} (hL : ∀ g, add? L (bx g cs t) = some (L' g) := by exact fun _ => rfl)
    (h : ∀ g, WL P ops Q rest n ((d, .pointer (some ⟨g, 0, none⟩)) :: env) w0 (L' g) false) : WL P ops Q (o :: rest) n env w0 L false :=
  new_run hg hd hn (fun a W s => by simp [execOp, ho, Instr.box, s.opv hx, newVar, newRow, newObj, cellsOf_eq hc, Sem.run]) hL h
def ones : List Value → Bool
  | [] => true
  | v :: vs => v.oneCell' && ones vs
theorem ones_eq : ∀ (l : List Value), ones l = true → ∀ q ∈ l, q.oneCell' = true
  | [], _, q, hq => by cases hq
  | v :: vs, h, q, hq => by
    simp only [ones, Bool.and_eq_true] at h
    rcases List.mem_cons.1 hq with rfl | hq
    · exact h.1
    · exact ones_eq vs h.2 q hq
/-- A store into a box. -/
theorem st (j : Nat) (hg : o.guard = none := by rfl) (hN : o.dst = none := by rfl) {t : TypeId} {p x : Operand} (ho : o.op = .store t p x := by rfl) {g off : Nat} (hp : opv env p = some (.pointer (some ⟨g, off, none⟩)) := by rfl) {u : Value} (hx : opv env x = some u := by rfl) {vs : List Value} (hu : cellsOf u = some vs := by rfl) {old : List Value} {e : TypeId} (hj : get? L j = some (bx g old e) := by rfl) (ht : (P.info? t).map (·.size) = some vs.length := by kernel_rfl) (h1 : ones vs = true := by rfl)
    {new : List Value} (hnew : lay old off vs = some new := by rfl) {L' : List Itm} (hL : put? L j (bx g new e) = some L' := by rfl)
    (h : WL P ops Q rest n env w0 L' false) : WL P ops Q (o :: rest) n env w0 L false := by
  intro a W s I
  obtain ⟨e1, e2⟩ := lay_eq _ _ _ _ hnew
  have hj' : L[j]? = some (bx g old e) := by rw [← get?_eq]; exact hj
  exact putL_event hg ho hN (s.opv hp) (s.opv hx) (by rw [cellsOf_eq hu]) (I.box hj') (by simpa using e1) ht (ones_eq _ h1) (by simpa using e2) (fun w1 a1 b1 c1 => h a w1 s (by rw [← put?_eq _ _ _ _ hL]; exact I.put hj' a1 b1 c1))
/-! code -/
theorem ret_then {K : Act → World → Prop} {X : Act → World → Prop} (h : ∀ a w, Q .ret a w = X a w) : ∀ a w, Exit.then K Q .ret a w = X a w := h
theorem ret_blk {id : Nat} {X : Act → World → Prop} (h : ∀ a w, Q .ret a w = X a w) : ∀ a w, Exit.inBlock id Q .ret a w = X a w := h
variable {a : Act} {c x y : Code}
theorem sq (h : WC P x (Exit.then (y.wp P Q) Q) n env w0 L) : WC P (.seq x y) Q n env w0 L := fun a W s I => wp_seq (h a W s I)
theorem rg {id : Nat} {l : List Oper} (h : WL P l.toArray Q l n env w0 L false) : WC P (.region id l.toArray false) Q n env w0 L := fun a W s I => wp_region_lit (h a W s I)
/-- A region whose order is drawn, that writes nothing. -/
theorem rgq {id : Nat} {l : List Oper} (hm : P.follows .mixedOrders = true) (hB : Region.lexB .any l.toArray = true := by kernel_rfl) (h : WL P l.toArray Q l n env w0 L true) : WC P (.region id l.toArray true) Q n env w0 L := fun a W s I =>
  wp_region_quiet (C := Inv w0 L) hm hB (I.grow ⟨rfl, rfl, rfl, Nat.le_refl _, fun _ _ => rfl⟩) (by simpa using h a s)
/-- A region's end, ahead of more code. -/
theorem nx {q_ : Bool} {Q' : Exit → Act → World → Prop} (hQ : Q' .normal = y.wp P Q := by rfl) (h : WC P y Q n env w0 L) : WL P ops Q' [] n env w0 L q_ := by
  cases q_ with
  | false =>
    intro a W s I
    show Q' .normal a W
    rw [hQ]; exact h a W s I
  | true =>
    intro a s W I
    rw [hQ]; exact h a W s I
theorem nxc {Q' : Exit → Act → World → Prop} (hQ : Q' .normal = y.wp P Q := by rfl) (h : WC P y Q n env w0 L) : WC P .skip Q' n env w0 L := fun a W s I => wp_skip (by rw [hQ]; exact h a W s I)
theorem cd {c : Operand} {b : Bool} (hx : opv env c = some (.bool b) := by rfl) (ht : b = true → WC P x Q n env w0 L) (hf : b = false → WC P y Q n env w0 L) : WC P (.cond c x y) Q n env w0 L := fun a W s I => wp_cond_split (s.opv hx) (fun e => ht e a W s I) (fun e => hf e a W s I)
theorem cd_t {c : Operand} {p : Prop} [Decidable p] (hp : p) (hx : opv env c = some (.bool (decide p)) := by rfl) (h : WC P x Q n env w0 L) : WC P (.cond c x y) Q n env w0 L := fun a W s I => wp_cond_true (by rw [s.opv hx, decide_eq_true hp]) (h a W s I)
theorem cd_f {c : Operand} {p : Prop} [Decidable p] (hp : ¬ p) (hx : opv env c = some (.bool (decide p)) := by rfl) (h : WC P y Q n env w0 L) : WC P (.cond c x y) Q n env w0 L := fun a W s I => wp_cond_false (by rw [s.opv hx, decide_eq_false hp]) (h a W s I)
theorem bl {id : Nat} (h : WC P x (Exit.inBlock id Q) n env w0 L) : WC P (.block id x) Q n env w0 L := fun a W s I => wp_block (h a W s I)
theorem ex {id : Nat} {Q' : Exit → Act → World → Prop} (hQ : Q' (.exit id) = y.wp P Q := by rfl) (h : WC P y Q n env w0 L) : WC P (.exit id) Q' n env w0 L := fun a W s I => wp_exit (by rw [hQ]; exact h a W s I)
def ini : List Value → Nat → Env
  | [], _ => []
  | v :: l, i => (i, v) :: ini l (i + 1)
theorem ini_look : ∀ (l : List Value) (i t : Nat) (v : Value), look (ini l i) t = some v → i ≤ t ∧ l[t - i]? = some v
  | [], _, _, _, h => by cases h
  | u :: l, i, t, v, h => by
    simp only [ini, look] at h
    cases hb : Nat.beq i t with
    | true => rw [hb] at h; cases h; obtain rfl := Nat.eq_of_beq_eq_true hb; simp
    | false =>
      rw [hb] at h
      obtain ⟨h1, h2⟩ := ini_look l (i + 1) t v h
      have e : t - i = (t - (i + 1)) + 1 := by omega
      exact ⟨by omega, by rw [e, List.getElem?_cons_succ]; exact h2⟩
/-- The call begins. -/
theorem go {f : FuncId} {fn : Func} {c : Code} {l : List Value} {R : Ending → World → Prop} (n : Nat) (hf : P.funcs[f]? = some fn) {w : World} (h : WC P c (bodyPost P fn R) n (ini l 0) w []) (hb : fn.body = some c := by rfl) (hn : fn.ntmps = n := by kernel_rfl) (hl : Nat.ble l.length n = true := by rfl) : Calls P f l.toArray w R := by
  refine calls_of_wp hf hb (h _ w ⟨?_, rfl, fun t v hv => ?_⟩ (Inv.start w))
  · have := Nat.le_of_ble_eq_true hl; simp [hn]; omega
  · have h1 := (ini_look l 0 t v hv).2
    rw [Nat.sub_zero] at h1
    have h2 := (List.getElem?_eq_some_iff.1 h1).1
    show (l.toArray ++ _)[t]? = some v
    rw [Array.getElem?_append_left (by simpa using h2)]
    simpa using h1
theorem rt {fn : Func} {R : Ending → World → Prop} {q : Tmp} {Q' : Exit → Act → World → Prop} (hQ : ∀ a w, Q' .ret a w = bodyPost P fn R .ret a w := by repeat (first | (with_reducible exact fun _ _ => rfl) | refine Go.Proofs.Ytlkofdedkfmaeaa.SE.ret_then ?_ | refine Go.Proofs.Ytlkofdedkfmaeaa.SE.ret_blk ?_)) (hr : fn.results = #[.tmp q] := by rfl) {v : Value} (hq : look env q = some v := by rfl) (h : ∀ W, Inv w0 L W → R (.returned v) W) : WC P .ret Q' n env w0 L := fun a W s I => wp_ret (by
  rw [hQ]
  refine bodyPost_ret ?_ s.df (h W I)
  rw [results_tmp hr, Array.getD_eq_getD_getElem?, s.lk q v hq]; rfl)
/-- The result lies in a box. -/
theorem rtc (j : Nat) {fn : Func} {R : Ending → World → Prop} {q : Tmp} {t : TypeId} {Q' : Exit → Act → World → Prop} (hQ : ∀ a w, Q' .ret a w = bodyPost P fn R .ret a w := by repeat (first | (with_reducible exact fun _ _ => rfl) | refine Go.Proofs.Ytlkofdedkfmaeaa.SE.ret_then ?_ | refine Go.Proofs.Ytlkofdedkfmaeaa.SE.ret_blk ?_)) (hr : fn.results = #[.cell q t] := by rfl) {g : Nat} (hq : look env q = some (.pointer (some ⟨g, 0, none⟩)) := by rfl) {cs : List Value} {e : TypeId} (hj : get? L j = some (bx g cs e) := by rfl) {ds : TypeDesc} (hu : P.underlying t = some ds) (hn : isAg ds = true := by rfl) (hi : (P.info? t).map (·.size) = some cs.length := by kernel_rfl) (h : ∀ W, Inv w0 L W → R (.returned (.agg cs.toArray)) W) : WC P .ret Q' n env w0 L := fun a W s I => wp_ret (by
  rw [hQ]
  exact bodyPost_ret (results_cell_row hr _ _ g e cs.toArray (0, 0) ds (by rw [Array.getD_eq_getD_getElem?, s.lk q _ hq]; rfl) (I.box (by rw [← get?_eq]; exact hj)) hu (by cases ds <;> simp_all [isAg]) (by simpa using hi)) s.df (h W I))
/-! calls -/
/-- A call whose answer is one value, no memory of it. -/
theorem c1 {q_ : Bool} {f : FuncId} {args : List Value} {v : Value} (hc : ∀ W, Inv w0 L W → Calls P f args.toArray W fun e w' => e = .returned v ∧ Below W.heap.size W w') (hf : ∃ fn, P.funcs[f]? = some fn ∧ (fn.name == "runtime.NumGoroutine") = false ∧ fn.body.isSome = true) (hg : o.guard = none := by rfl) (hd : o.dst = some d := by rfl) (hn : Nat.blt d n = true := by rfl) {as : List Operand} {ts : Array TypeId} (ho : o.op = .call { callee := .value (.func f), args := as.toArray, argTypes := ts } := by rfl) (hargs : opvs env as = some args := by rfl)
    (h : WL P ops Q rest n ((d, v) :: env) w0 L q_) : WL P ops Q (o :: rest) n env w0 L q_ := by
  obtain ⟨fn, h1, h2, h3⟩ := hf
  cases q_ with
  | false =>
    intro a W s I
    refine goesL_ (some d) hd hg h1 h2 h3 args.toArray ho (by rw [← s.opvs hargs]; simp) ((hc W I).mono fun e w' hh => ?_)
    obtain ⟨rfl, hb⟩ := hh
    exact ⟨v, rfl, h _ _ (s.put (Nat.le_of_ble_eq_true hn) v) (I.grow hb)⟩
  | true =>
    intro a s
    unfold wpQuiet
    rw [if_pos (by simp [Region.wanted, hg])]
    refine ⟨v, fun W I => ?_, ?_⟩
    · have he := enters_ h1 h2 h3 args.toArray W
      have hm : as.map a.eval = args := s.opvs hargs
      have hrun : (execOp a.eval o).run P W = .ok (.enter f args.toArray) W := by
        unfold execOp
        simp [ho, resolve, Deferred.ofValue, invoke, Act.eval]
        rw [← hm] at he ⊢
        simpa using he
      unfold Oper.quietAt
      rw [hrun]
      refine ⟨rfl, (hc W I).mono fun e w' hh => ?_⟩
      exact ⟨hh.1, I.grow hh.2⟩
    · rw [hd]; exact h _ (s.put (Nat.le_of_ble_eq_true hn) v)
/-- A call whose answer has memory of its own: one more item. -/
theorem cm {α : Type} {dk : Kd α} {x : α} {mk : List Value → Value} {f : FuncId} {args : List Value} (hc : ∀ W, Inv w0 L W → Calls P f args.toArray W fun e w' => ∃ cs, e = .returned (mk cs) ∧ dk.M w' W.heap.size (fun _ => True) x cs ∧ Below W.heap.size W w') (hf : ∃ fn, P.funcs[f]? = some fn ∧ (fn.name == "runtime.NumGoroutine") = false ∧ fn.body.isSome = true) (hg : o.guard = none := by rfl) (hd : o.dst = some d := by rfl) (hn : Nat.blt d n = true := by rfl) {as : List Operand} {ts : Array TypeId} (ho : o.op = .call { callee := .value (.func f), args := as.toArray, argTypes := ts } := by rfl) (hargs : opvs env as = some args := by rfl)
    {L' : List Value → List Itm} (hL : ∀ cs, add? L (mi dk w0.heap.size x cs) = some (L' cs) := by exact fun _ => rfl)
    (h : ∀ cs, WL P ops Q rest n ((d, mk cs) :: env) w0 (L' cs) false) : WL P ops Q (o :: rest) n env w0 L false := by
  intro a W s I
  obtain ⟨fn, h1, h2, h3⟩ := hf
  refine goesL_ (some d) hd hg h1 h2 h3 args.toArray ho (by rw [← s.opvs hargs]; simp) ((hc W I).mono fun e w' hh => ?_)
  obtain ⟨cs, rfl, hm, hb⟩ := hh
  refine ⟨_, rfl, h cs _ _ (s.put (Nat.le_of_ble_eq_true hn) _) ?_⟩
  rw [← add?_eq _ _ _ (hL cs)]
  exact addM I hb hm rfl
/-! elements of what came in -/
/-- An element's place. -/
theorem ix {q_ : Bool} (hg : o.guard = none := by rfl) (hd : o.dst = some d := by rfl) (hn : Nat.blt d n = true := by rfl) {t : TypeId} {x y : Operand} (ho : o.op = .indexAddr t x y := by rfl) {e : TypeId} (hu : P.underlying t = some (.slice e)) {sz : Nat} (hs : (P.info? e).map (·.size) = some sz := by kernel_rfl) {ad : Addr} {m c : Nat} (hx : opv env x = some (.slice (some ad) m c) := by rfl) {k : IntKind} {i : Int} (hy : opv env y = some (.int k i) := by rfl) (h0 : 0 ≤ i) (h1 : i < m)
    (h : WL P ops Q rest n ((d, .pointer (some (ad.add (i.toNat * sz)))) :: env) w0 L q_) : WL P ops Q (o :: rest) n env w0 L q_ := by
  refine st_run hg hd hn (fun a W s I => ?_) h
  obtain ⟨q, hq, hsz⟩ := Option.map_eq_some_iff.1 hs
  simp [execOp, ho, s.opv hx, s.opv hy, Instr.indexAt, asIntOf, Sem.run_bind, run_underlying hu, h0, h1, sizeOf, typeInfo, hq, hsz]
/-- A struct whose cells were there when the call began. -/
theorem lo {q_ : Bool} (hg : o.guard = none := by rfl) (hd : o.dst = some d := by rfl) (hn : Nat.blt d n = true := by rfl) {t : TypeId} {x : Operand} (ho : o.op = .load t x := by rfl) {ds : TypeDesc} (hu : P.underlying t = some ds) (ha : isAg ds = true := by rfl) {ad : Addr} (hx : opv env x = some (.pointer (some ad)) := by rfl) {cs : List Value} (hc : ∀ j u, cs[j]? = some u → w0.cell? (ad.add j) = some u) (hi : (P.info? t).map (·.size) = some cs.length := by kernel_rfl)
    (h : WL P ops Q rest n ((d, .agg cs.toArray) :: env) w0 L q_) : WL P ops Q (o :: rest) n env w0 L q_ :=
  st_run hg hd hn (fun a W s I => loadL_run ho (s.opv hx) hu (by cases ds <;> simp_all [isAg]) hi (fun j u hj => pw_cell_below I.below (hc j u hj))) h
/-- One cell that was there when the call began. -/
theorem lo1 {q_ : Bool} (hg : o.guard = none := by rfl) (hd : o.dst = some d := by rfl) (hn : Nat.blt d n = true := by rfl) {t : TypeId} {x : Operand} (ho : o.op = .load t x := by rfl) {ds : TypeDesc} (hu : P.underlying t = some ds) (ha : isAg ds = false := by rfl) {ad : Addr} (hx : opv env x = some (.pointer (some ad)) := by rfl) {v : Value} (hc : w0.cell? ad = some v)
    (h : WL P ops Q rest n ((d, v) :: env) w0 L q_) : WL P ops Q (o :: rest) n env w0 L q_ :=
  st_run hg hd hn (fun a W s I => one_run ho (s.opv hx) hu ha (pw_cell_below I.below hc)) h
/-! rows of the call's own -/
theorem mk_ {α : Type} (dk : Kd α) (e : TypeId) (z0 : α) (hg : o.guard = none := by rfl) (hd : o.dst = some d := by rfl) (hn : Nat.blt d n = true := by rfl) {t : TypeId} {x y : Operand} (ho : o.op = .makeSlice t x y := by rfl) {m : Int} (hx : opv env x = some (.int .i64 m) := by rfl) (hy : opv env y = some (.int .i64 m) := by rfl) (ht : P.underlying t = some (.slice e)) {z : Value} {bytes : Nat} (hinfo : (P.info? e).map (fun i => (i.zero, i.size, i.bytes)) = some (some z, dk.sz, bytes)) (hz : z.cells.size = dk.sz := by rfl) (hs0 : 0 < dk.sz := by decide) (hb0 : 0 < bytes := by decide)
    (hzero : ∀ w b, dk.M w b (fun _ => False) z0 z.cells.toList) (h0 : 0 ≤ m) (hl : m.toNat * bytes ≤ 281474976710656) {L' : Nat → Nat → List Itm} (hL : ∀ g c, add? L (rr dk e w0.heap.size (.slice (some ⟨g, 0, none⟩) m.toNat c) (List.replicate m.toNat z0)) = some (L' g c) := by exact fun _ _ => rfl)
    (h : ∀ g c, WL P ops Q rest n ((d, .slice (some ⟨g, 0, none⟩) m.toNat c) :: env) w0 (L' g c) false) : WL P ops Q (o :: rest) n env w0 L false := by
  intro a W s I
  refine R_make dk w0.heap.size e hg hd t x y ho m (s.opv hx) (s.opv hy) ht z bytes hinfo hz hs0 hb0 z0 (ok := fun k => W.heap.size ≤ k) (okp := fun _ => False) (hzero W _) (fun _ hk => hk.elim) (Nat.le_refl _) h0 hl (Below.refl w0.heap.size W) I.below.size ?_
  intro v1 w1 hr hb hgr hat
  obtain ⟨b, hb1, _⟩ := hat
  obtain ⟨B, c, rfl⟩ := R_slice hr
  obtain ⟨ad, rfl⟩ : ∃ ad, B = some ad := by cases B with
    | none => simp [Value.ownBlock] at hb1
    | some ad => exact ⟨ad, rfl⟩
  obtain ⟨g, rfl⟩ := R_head hr
  rw [List.length_replicate] at hr ⊢
  rw [hd]
  refine h g c _ _ (s.put (Nat.le_of_ble_eq_true hn) _) ?_
  rw [← add?_eq _ _ _ (hL g c)]
  exact I.add ⟨hgr.os, hgr.tape, hgr.output, hgr.size, fun k hk => hgr.block k hk (by simp)⟩ _ hr
def offs : List Itm → List Nat → Option (List Itm)
  | l, [] => some l
  | l, j :: js => (put? l j off).bind fun r => offs r js
theorem offs_eq : ∀ (js : List Nat) (l r : List Itm), offs l js = some r → js.foldl (fun l m => l.set m off) l = r
  | [], l, r, h => by cases h; rfl
  | j :: js, l, r, h => by
    simp only [offs] at h
    cases hc : put? l j off with
    | none => rw [hc] at h; cases h
    | some q => rw [hc] at h; rw [List.foldl_cons, put?_eq _ _ _ _ hc]; exact offs_eq js q r h
/-- An element of a row of the call's own is written; the rows of what is written go into the row. -/
theorem ste_ {α : Type} {dk : Kd α} {e : TypeId} {g m cap : Nat} {xs : List α} {W : World} {a : Act} (I : Inv w0 L W) (j : Nat) (js : List Nat) (x' : α) {i : Int} (h0 : 0 ≤ i) (h1 : i < m) {seg : List Value} (hM : ∀ T : Nat → Prop, (∀ (q : Nat) (it : Itm), q ∈ js → L[q]? = some it → it.p W T) → dk.M W w0.heap.size T x' seg)
    (hj : L[j]? = some (rr dk e w0.heap.size (.slice (some ⟨g, 0, none⟩) m cap) xs)) (hjs : j ∉ js) (hg : o.guard = none) (hN : o.dst = none) {t : TypeId} {p x : Operand} (ho : o.op = .store t p x) (hp : a.eval p = .pointer (some ((⟨g, 0, none⟩ : Addr).add (i.toNat * dk.sz)))) {u : Value} (hx : a.eval x = u) (hu : u.cells.toList = seg) (hl : seg.length = dk.sz) (ht : (P.info? t).map (·.size) = some seg.length) (ho1 : ∀ q ∈ seg, q.oneCell' = true)
    {L' : List Itm} (hL : js.foldl (fun l m => l.set m off) (L.set j (rr dk e w0.heap.size (.slice (some ⟨g, 0, none⟩) m cap) (xs.set i.toNat x'))) = L')
    (h : ∀ w1, Inv w0 L' w1 → wpList P ops Q rest a w1) : wpList P ops Q (o :: rest) a W := by
  subst hL
  obtain ⟨hB, ow, h2, h3⟩ := I
  have hrow : dk.R e W w0.heap.size (fun k => ow k = j + 1) (.slice (some ⟨g, 0, none⟩) m cap) xs := h3 j _ hj
  have hgo : ow g = j + 1 := hrow.1 g rfl
  let ow' : Nat → Nat := fun k => if ∃ z ∈ js, ow k = z + 1 then j + 1 else ow k
  have hj' : ∀ k, ow k = j + 1 → ow' k = j + 1 := fun k hk => by
    show (if _ then _ else _) = _
    split
    · rfl
    · exact hk
  have HO : dk.R e W w0.heap.size (fun k => ow' k = j + 1) (.slice (some ⟨g, 0, none⟩) m cap) xs := R_mono hrow hj'
  obtain ⟨c, hcl, _, hcc⟩ := R_getA HO x' i h0 h1
  have hT := hM (fun k => ∃ z ∈ js, ow k = z + 1) (fun z it hm hit => it.mv (h3 z it hit) (fun k hk _ => ⟨⟨z, hm, hk⟩, rfl⟩))
  refine R_store dk w0.heap.size hN hg t p x ho e (g := g) (n := m) (cap := cap) (o' := i.toNat * dk.sz) i 0 xs x' u seg c (fun k => ow' k = j + 1) (fun k => ∃ z ∈ js, ow k = z + 1) ?_ (by omega) hx hu ht ho1 HO h0 h1 hcl (fun j u hu => by have := hcc j u hu; rwa [add_off, Nat.zero_add] at this) (by omega) ?_ ?_ hB ?_
  · rw [hp, add_off, Nat.zero_add]
  · have hz : List.drop (0 + seg.length) c = [] := by rw [Nat.zero_add, hl, ← hcl, List.drop_length]
    rw [hz, List.take_zero, List.nil_append, List.append_nil]; exact hT
  · intro k hk
    refine ⟨?_, ?_⟩
    · show (if _ then _ else _) = _
      rw [if_pos hk]
    · rintro rfl
      obtain ⟨z, hm, hmo⟩ := hk
      have : z = j := by omega
      subst this; exact hjs hm
  · intro w1 hr hb hgr
    refine h w1 ⟨hb, ow', ?_, ?_⟩
    · intro k hk
      refine h2 k (fun hz => hk ?_)
      show (if _ then _ else _) = _
      rw [if_neg, hz]
      rintro ⟨z, hm, hmo⟩; omega
    · have key : ∀ (ms : List Nat) (M : List Itm), (∀ (q : Nat) (it : Itm), M[q]? = some it → q ∉ ms → it.p w1 (fun k => ow' k = q + 1)) → ∀ (q : Nat) (it : Itm), (ms.foldl (fun l m => l.set m off) M)[q]? = some it → it.p w1 (fun k => ow' k = q + 1) := by
        intro ms
        induction ms with
        | nil => exact fun M hM q it hq => hM q it hq (by simp)
        | cons a ms ih =>
          intro M hM q it hq
          rw [List.foldl_cons] at hq
          refine ih _ (fun q' it' hq' hnm => ?_) q it hq
          by_cases e : a = q'
          · subst e
            have hl := (List.getElem?_eq_some_iff.1 hq').1
            rw [List.length_set] at hl
            rw [List.getElem?_set_self hl] at hq'
            cases hq'
            exact trivial
          · rw [List.getElem?_set_ne e] at hq'
            exact hM q' it' hq' (by simp [Ne.symm e, hnm])
      refine key js _ (fun q it hq hnq => ?_)
      by_cases e : j = q
      · subst e
        have hl := (List.getElem?_eq_some_iff.1 hj).1
        rw [List.getElem?_set_self hl] at hq
        cases hq
        exact hr
      · rw [List.getElem?_set_ne e] at hq
        refine it.mv (h3 q it hq) (fun k hk hlt => ⟨?_, hgr.block k hlt ?_⟩)
        · show (if _ then _ else _) = _
          rw [if_neg]
          · exact hk
          · rintro ⟨z, hm, hmo⟩
            have : z = q := by omega
            subst this; exact hnq hm
        · intro he
          have : k = g := by injection he
          subst this; omega
theorem sto {α : Type} {dk : Kd α} {e : TypeId} {g m cap : Nat} {xs : List α} (j : Nat) (js : List Nat) (x' : α) {i : Int} (h0 : 0 ≤ i) (h1 : i < m) {seg : List Value} (hM : ∀ W, ∀ T : Nat → Prop, (∀ (q : Nat) (it : Itm), q ∈ js → L[q]? = some it → it.p W T) → dk.M W w0.heap.size T x' seg)
    (hj : get? L j = some (rr dk e w0.heap.size (.slice (some ⟨g, 0, none⟩) m cap) xs) := by rfl) (hjs : j ∉ js := by decide) (hg : o.guard = none := by rfl) (hN : o.dst = none := by rfl) {t : TypeId} {p x : Operand} (ho : o.op = .store t p x := by rfl) (hp : opv env p = some (.pointer (some ((⟨g, 0, none⟩ : Addr).add (i.toNat * dk.sz)))) := by rfl) {u : Value} (hx : opv env x = some u := by rfl) (hu : cellsOf u = some seg := by rfl) (hl : seg.length = dk.sz := by rfl) (ht : (P.info? t).map (·.size) = some seg.length := by kernel_rfl) (ho1 : ones seg = true := by rfl)
    {L1 L' : List Itm} (hL1 : put? L j (rr dk e w0.heap.size (.slice (some ⟨g, 0, none⟩) m cap) (xs.set i.toNat x')) = some L1 := by rfl) (hL : offs L1 js = some L' := by rfl)
    (h : WL P ops Q rest n env w0 L' false) : WL P ops Q (o :: rest) n env w0 L false := by
  intro a W s I
  -- the step of SL, told of a frame of this kind
  exact ste_ (a := a) I j js x' h0 h1 (hM W) (by rw [← get?_eq]; exact hj) hjs hg hN ho (s.opv hp) (s.opv hx) (by rw [cellsOf_eq hu]) hl ht (ones_eq _ ho1) (by rw [put?_eq _ _ _ _ hL1]; exact offs_eq _ _ _ hL) (fun w1 I1 => h a w1 s I1)
/-! loops -/
def Subs (env : Env) : Env → Prop
  | [] => True
  | (k, u) :: e => look env k = some u ∧ Subs env e
theorem Subs.sub {env : Env} : ∀ {e : Env}, Subs env e → ∀ t v, look e t = some v → look env t = some v
  | [], _ => sub_nil env
  | (k, u) :: e, h => sub_cons h.1 (Subs.sub h.2)
def pre? : List Itm → Nat → Option (List Itm)
  | _, 0 => some []
  | x :: l, k + 1 => (pre? l k).bind fun r => some (x :: r)
  | [], _ + 1 => none
theorem pre?_eq : ∀ (l : List Itm) (k : Nat) (r : List Itm), pre? l k = some r → l.take k = r
  | l, 0, r, h => by cases l <;> cases h <;> rfl
  | x :: l, k + 1, r, h => by
    simp only [pre?] at h
    cases hc : pre? l k with
    | none => rw [hc] at h; cases h
    | some q => rw [hc] at h; cases h; simp [pre?_eq l k q hc]
  | [], _ + 1, r, h => by cases h
/-- A loop: its state s, told by J; what the temporaries and the memory are at its head. -/
def Again {σ : Type} (J : σ → Nat → Prop) (eh : σ → Env) (Lh : σ → List Itm) (n : Nat) (w0 : World) (m : Nat) (a : Act) (W : World) : Prop := ∃ s' m', m' < m ∧ J s' m' ∧ Sat n (eh s') a ∧ Inv w0 (Lh s') W
theorem lp {σ : Type} (J : σ → Nat → Prop) (eh : σ → Env) (Lh : σ → List Itm) (s0 : σ) (m0 : Nat) (k : Nat) (h0 : J s0 m0) (hs : Subs env (eh s0)) (hL : pre? L k = some (Lh s0)) (round : ∀ s m, J s m → WC P c (Exit.then (Again J eh Lh n w0 m) Q) n (eh s) w0 (Lh s)) : WC P (.loop c) Q n env w0 L := by
  intro a W s I
  refine wp_loop_ghost (fun m a W => ∃ s, J s m ∧ Sat n (eh s) a ∧ Inv w0 (Lh s) W) m0 ⟨s0, h0, s.sub hs.sub, ?_⟩ ?_
  · rw [← pre?_eq _ _ _ hL]; exact I.cut k rfl
  · rintro m a W ⟨s, hj, hsat, hI⟩
    refine wp_mono (round s m hj a W hsat hI) ?_
    intro e a' w' hq
    cases e with
    | normal =>
      obtain ⟨s', m', h1, h2, h3, h4⟩ := hq
      exact ⟨m', h1, s', h2, h3, h4⟩
    | exit id => exact hq
    | goto l => exact hq
    | ret => exact hq
    | panic ch => exact hq
    | outgrown => exact hq
/-- A round's end. -/
theorem ag {q_ : Bool} {σ : Type} {J : σ → Nat → Prop} {eh : σ → Env} {Lh : σ → List Itm} {m : Nat} {Q' : Exit → Act → World → Prop} (s' : σ) (m' k : Nat) (hQ : Q' .normal = Again J eh Lh n w0 m := by rfl) (hm : m' < m) (hj : J s' m') (hs : Subs env (eh s')) (hL : pre? L k = some (Lh s')) : WL P ops Q' [] n env w0 L q_ := by
  have key : ∀ a W, Sat n env a → Inv w0 L W → Q' .normal a W := by
    intro a W s I
    rw [hQ]
    exact ⟨s', m', hm, hj, s.sub hs.sub, by rw [← pre?_eq _ _ _ hL]; exact I.cut k rfl⟩
  cases q_ with
  | false => exact key
  | true => exact fun a s W I => key a W s I
/-- .. behind more than a region. -/
theorem agc {σ : Type} {J : σ → Nat → Prop} {eh : σ → Env} {Lh : σ → List Itm} {m : Nat} {Q' : Exit → Act → World → Prop} (s' : σ) (m' k : Nat) (hQ : Q' .normal = Again J eh Lh n w0 m := by rfl) (hm : m' < m) (hj : J s' m') (hs : Subs env (eh s')) (hL : pre? L k = some (Lh s')) : WC P .skip Q' n env w0 L := by
  intro a W s I
  refine wp_skip ?_
  rw [hQ]
  exact ⟨s', m', hm, hj, s.sub hs.sub, by rw [← pre?_eq _ _ _ hL]; exact I.cut k rfl⟩
/-! elements, further -/
theorem add_two (a : Addr) (m k : Nat) : (a.add m).add k = a.add (m + k) := by
  unfold Addr.add
  by_cases h1 : m = 0
  · subst h1; simp
  · by_cases h2 : k = 0
    · subst h2; simp
    · rw [if_neg h1, if_neg h2, if_neg (by omega)]; simp [Nat.add_assoc]
theorem get_ {α : Type} {dk : Kd α} {w : World} {B : Option Addr} {m : Nat} {xs : List α} (h : dk.C w B m xs) (z : α) (i : Int) (h0 : 0 ≤ i) (h1 : i < m) (sz : Nat) (hs : dk.sz = sz := by rfl) : ∃ ad cs, B = some ad ∧ dk.K w (xs.getD i.toNat z) cs ∧ ∀ j u, cs[j]? = some u → w.cell? ((ad.add (i.toNat * sz)).add j) = some u := by
  subst hs
  obtain ⟨ad, c, e, _, hK, hc⟩ := C_get h z i h0 h1
  exact ⟨ad, c, e, hK, fun j u hj => by rw [add_two]; exact hc j u hj⟩
theorem sub_ {w : World} {B : Addr} {cs sub : List Value} {off m : Nat} (h : ∀ j u, cs[j]? = some u → w.cell? (B.add j) = some u) (hc : cut cs off m = some sub) : ∀ j u, sub[j]? = some u → w.cell? ((B.add off).add j) = some u := by
  intro j u hj
  obtain ⟨h1, h2⟩ := cut_eq _ _ _ _ hc
  rw [add_two]
  refine h _ _ ?_
  rw [← hj, ← h1, List.getElem?_take, if_pos, List.getElem?_drop]
  have := (List.getElem?_eq_some_iff.1 hj).1; omega
/-- A field's place in an element. -/
theorem fle {q_ : Bool} (hg : o.guard = none := by rfl) (hd : o.dst = some d := by rfl) (hn : Nat.blt d n = true := by rfl) {t : TypeId} {x : Operand} {f : Nat} (ho : o.op = .fieldAddr t x f := by rfl) {fs : Array Field} (hu : P.underlying t = some (.struct fs)) {fd : Field} (hf : fs[f]? = some fd := by rfl) (hs : (P.info? fd.type).any (fun i => decide (0 < i.size)) = true := by kernel_rfl) {B : Addr} (hx : opv env x = some (.pointer (some B)) := by rfl)
    {B' : Addr} (hB : B.add fd.offset = B') (h : WL P ops Q rest n ((d, .pointer (some B')) :: env) w0 L q_) : WL P ops Q (o :: rest) n env w0 L q_ := by
  subst hB
  refine st_run hg hd hn (fun a W s I => ?_) h
  obtain ⟨i, hi, hsz⟩ : ∃ i, P.info? fd.type = some i ∧ decide (0 < i.size) = true := by
    cases hq : P.info? fd.type with
    | none => rw [hq] at hs; cases hs
    | some i => rw [hq] at hs; exact ⟨i, rfl, hs⟩
  have hz : i.size ≠ 0 := by have := of_decide_eq_true hsz; omega
  simp [execOp, ho, s.opv hx, Instr.fieldAt, Sem.run_bind, run_underlying hu, hf, Instr.sureAddr, fieldPlace, sizeOf, typeInfo, hi, hz]
/-- A field of a struct's value. -/
theorem fv {q_ : Bool} (hg : o.guard = none := by rfl) (hd : o.dst = some d := by rfl) (hn : Nat.blt d n = true := by rfl) {t : TypeId} {x : Operand} {f : Nat} (ho : o.op = .field t x f := by rfl) {fs : Array Field} (hu : P.underlying t = some (.struct fs)) {fd : Field} (hf : fs[f]? = some fd := by rfl) {ds : TypeDesc} (hud : P.underlying fd.type = some ds) (ha : isAg ds = false := by rfl) {l : List Value} (hx : opv env x = some (.agg l.toArray) := by rfl) {v : Value} (hv : cell l fd.offset = some v := by rfl)
    (h : WL P ops Q rest n ((d, v) :: env) w0 L q_) : WL P ops Q (o :: rest) n env w0 L q_ := by
  refine st_run hg hd hn (fun a W s I => ?_) h
  have hagg : (isAgg fd.type).run P W = .ok false W := by
    unfold isAgg
    rw [Sem.run_bind, run_underlying hud W]
    cases ds <;> simp_all [isAg]
  rw [cell_eq] at hv
  simp [execOp, ho, s.opv hx, Instr.field, Sem.run_bind, run_underlying hu, hf, asAgg, part, hagg, hv]
/-- A result's part. -/
theorem xt {q_ : Bool} (hg : o.guard = none := by rfl) (hd : o.dst = some d := by rfl) (hn : Nat.blt d n = true := by rfl) {x : Operand} {f : Nat} (ho : o.op = .extract x f := by rfl) {l : List Value} (hx : opv env x = some (.tuple l.toArray) := by rfl) {v : Value} (hv : cell l f = some v := by rfl)
    (h : WL P ops Q rest n ((d, v) :: env) w0 L q_) : WL P ops Q (o :: rest) n env w0 L q_ := by
  refine st_run hg hd hn (fun a W s I => ?_) h
  rw [cell_eq] at hv
  have hv' : l.toArray[f]? = some v := by simpa using hv
  simp [execOp, ho, s.opv hx, Instr.extract, hv']
theorem df {p : Prop} [Decidable p] (h : ¬ p) : decide p = false := decide_eq_false h
theorem dt {p : Prop} [Decidable p] (h : p) : decide p = true := decide_eq_true h
theorem C_take {α : Type} {dk : Kd α} {w : World} {B : Option Addr} {m k : Nat} {xs : List α} (h : dk.C w B m xs) (hk : k ≤ m) : dk.C w B k (xs.take k) := by
  obtain ⟨h1, h2, h3⟩ := h
  refine ⟨by rw [List.length_take]; omega, by omega, fun h0 => ?_⟩
  obtain ⟨ad, e, hc⟩ := h3 (by omega)
  refine ⟨ad, e, fun j p hj => hc j p ?_⟩
  rw [List.getElem?_take] at hj
  split at hj
  · exact hj
  · cases hj
/-- 'x[:n]'. -/
theorem slh {q_ : Bool} (hg : o.guard = none := by rfl) (hd : o.dst = some d := by rfl) (hn : Nat.blt d n = true := by rfl) {t : TypeId} {x y : Operand} (ho : o.op = .slice t x none (some y) none := by rfl) {e : TypeId} (hu : P.underlying t = some (.slice e)) {sz : Nat} (hs : (P.info? e).map (·.size) = some sz := by kernel_rfl) {B : Option Addr} {m c : Nat} (hx : opv env x = some (.slice B m c) := by rfl) {k : IntKind} {i : Int} (hy : opv env y = some (.int k i) := by rfl) (h0 : 0 ≤ i) (h1 : i ≤ c) {l : Nat} (hl : l = i.toNat)
    (h : WL P ops Q rest n ((d, .slice B l c) :: env) w0 L q_) : WL P ops Q (o :: rest) n env w0 L q_ := by
  subst hl
  refine st_run hg hd hn (fun a W s I => ?_) h
  obtain ⟨q, hq, hsz⟩ := Option.map_eq_some_iff.1 hs
  have ha : (B.map fun x => x.add 0) = B := by cases B <;> simp [Addr.add]
  simp [execOp, ho, s.opv hx, s.opv hy, Instr.sliceAt, Instr.slice, Instr.sliceBounds, Instr.sliceBound, asIntOf, Sem.run_bind, run_underlying hu, h0, h1, sizeOf, typeInfo, hq, hsz, ha]
end
end Go.Proofs.Ytlkofdedkfmaeaa.SE
