/- Arguments of any plain type, opened: from what a call's argument reads as to the kinds (`Kd`) of the printed texts: whole numbers, bools, strings, slices, structs, nested as they like. Conditions: none; each theorem asks of the type what its name says. -/
import Derived.Test.YtlkofdedkfmaeaaWWords
import Derived.Deep.Slices
import Derived.ChangeArms
import Derived.WideShapes
namespace Go.Proofs.Ytlkofdedkfmaeaa.Open
open Go Go.ChangeShapes Go.WideShapes Go.Proofs.YtlkofdedkfmaeaaW.PrintWords

/-- What reads at type t is of the kind d, and meets F. -/
structure Opens {α : Type} (P : Program) (t : TypeId) (d : Kd α) (F : α → Prop) : Prop where
  sz : P.cellsOf t = d.sz
  go : ∀ {H : Type} {enc : TypeId × Value → H} {w : World} {base : Nat} {spare : Nat → Bool} {held : Bool} {fuel : Nat} {cs : List Value} {x : DataW H × List MemPlace}, DataW.trod enc P w base spare held fuel t cs = some x → ∃ v : α, d.K w v cs ∧ F v

theorem Opens.int {P : Program} {t : TypeId} {k : IntKind} (hu : P.underlying t = some (.int k)) (hs : P.cellsOf t = 1) : Opens P t (Kd.int k) (fun n => (Lit.int k n).wf = true) :=
  ⟨hs, fun h => by obtain ⟨n, rfl, _, hw⟩ := DataW.trod_int hu h; exact ⟨n, rfl, hw⟩⟩
def I64 (n : Int) : Prop := -9223372036854775808 ≤ n ∧ n ≤ 9223372036854775807
def U8 (n : Int) : Prop := 0 ≤ n ∧ n ≤ 255
theorem Opens.imp {α : Type} {P : Program} {t : TypeId} {d : Kd α} {F G : α → Prop} (h : Opens P t d F) (hi : ∀ x, F x → G x) : Opens P t d G :=
  ⟨h.sz, fun ht => by obtain ⟨v, hv, hF⟩ := h.go ht; exact ⟨v, hv, hi _ hF⟩⟩
theorem Opens.i64 {P : Program} {t : TypeId} (hu : P.underlying t = some (.int .i64)) (hs : P.cellsOf t = 1) : Opens P t (Kd.int .i64) I64 :=
  (Opens.int hu hs).imp fun n h => by simp [Lit.wf, IntKind.min, IntKind.max, IntKind.signed, IntKind.bits] at h; exact h
theorem Opens.u8 {P : Program} {t : TypeId} (hu : P.underlying t = some (.int .u8)) (hs : P.cellsOf t = 1) : Opens P t (Kd.int .u8) U8 :=
  (Opens.int hu hs).imp fun n h => by simp [Lit.wf, IntKind.min, IntKind.max, IntKind.signed, IntKind.bits] at h; exact h
def WBool (_ : Bool) : Prop := True
def WStr (s : ByteArray) : Prop := s.size ≤ maxLen
theorem Opens.bool {P : Program} {t : TypeId} (hu : P.underlying t = some .bool) (hs : P.cellsOf t = 1) : Opens P t Kd.bool WBool :=
  ⟨hs, fun h => by obtain ⟨n, rfl, _⟩ := DataW.trod_bool hu h; exact ⟨n, rfl, trivial⟩⟩
theorem Opens.string {P : Program} {t : TypeId} (hu : P.underlying t = some .string) (hs : P.cellsOf t = 1) : Opens P t Kd.string WStr :=
  ⟨hs, fun h => by obtain ⟨n, rfl, _, hw⟩ := DataW.trod_string hu h; exact ⟨n, rfl, hw⟩⟩

theorem list_of {α : Type} {p : Nat → α → Prop} : ∀ n, (∀ i, i < n → ∃ v, p i v) → ∃ xs : List α, xs.length = n ∧ ∀ i v, xs[i]? = some v → p i v
  | 0, _ => ⟨[], rfl, fun i v h => by simp at h⟩
  | n + 1, h => by
    obtain ⟨xs, hl, hx⟩ := list_of n (fun i hi => h i (by omega))
    obtain ⟨v, hv⟩ := h n (by omega)
    refine ⟨xs ++ [v], by simp [hl], fun i u hu => ?_⟩
    rcases Nat.lt_or_ge i xs.length with hi | hi
    · rw [List.getElem?_append_left hi] at hu; exact hx i u hu
    · have hi' : i = n := by
        have := (List.getElem?_eq_some_iff.1 hu).1
        simp at this; omega
      subst hi'
      rw [← hl] at hu
      have : v = u := by simpa using hu
      subst this; exact hv

theorem Opens.slice {α : Type} {P : Program} {t e : TypeId} {d : Kd α} {F : α → Prop} (hu : P.underlying t = some (.slice e)) (hs : P.cellsOf t = 1) (h : Opens P e d F) :
    Opens P t (Kd.slice e d) (fun xs => xs.length ≤ maxLen ∧ ∀ x ∈ xs, F x) := by
  refine ⟨hs, fun {H enc w base spare held fuel cs x} ht => ?_⟩
  rcases Go.Deep.open_slice hu ht with ⟨rfl, _⟩ | ⟨a, len, cap, m, n, D, Pl, rfl, hb, hl, hm, hmm, _, hel⟩
  · exact ⟨[], ⟨none, 0, rfl, by simp, Kd.C_nil d w⟩, by simp, by simp⟩
  · have hlm : len ≤ m := by rw [hmm]; split <;> omega
    have hmx : cap ≤ 9223372036854775807 := hm
    have each : ∀ i, i < len → ∃ v : α, F v ∧ ∃ c, c.length = d.sz ∧ d.K w v c ∧ ∀ j u, c[j]? = some u → w.cell? (a.add (i * d.sz + j)) = some u := by
      intro i hi
      obtain ⟨c, hc, ht'⟩ := hel i (by omega)
      obtain ⟨v, hK, hF⟩ := h.go ht'
      rw [h.sz] at hc
      obtain ⟨_, hlen, hcell⟩ := World.cells?_some hc
      refine ⟨v, hF, c, hlen, hK, fun j u hj => ?_⟩
      have hlt : j < d.sz := by have := (List.getElem?_eq_some_iff.1 hj).1; omega
      have := hcell j hlt
      rw [Go.Deep.add_add] at this
      rw [this]; exact hj
    obtain ⟨xs, hxl, hxs⟩ := list_of len each
    have hF : ∀ x ∈ xs, F x := by
      intro x hx
      obtain ⟨i, hi⟩ := List.getElem?_of_mem hx
      exact (hxs i x hi).1
    refine ⟨xs, ⟨some a, cap, by rw [hxl], by omega, rfl, by omega, fun _ => ⟨a, rfl, fun j p hj => (hxs j p hj).2⟩⟩, ?_, hF⟩
    show xs.length ≤ 9223372036854775807
    omega

/-- Fields in line, from an offset on. -/
structure Fields {α : Type} (P : Program) (fs : List Field) (off : Nat) (d : Kd α) (F : α → Prop) : Prop where
  go : ∀ {H : Type} {enc : TypeId × Value → H} {w : World} {base : Nat} {spare : Nat → Bool} {held : Bool} {fuel : Nat} {cs : List Value}, cs.length = off + d.sz →
    (∀ f ∈ fs, ∃ x, DataW.trod enc P w base spare held fuel f.type ((cs.drop f.offset).take (P.cellsOf f.type)) = some x) → ∃ v : α, d.K w v (cs.drop off) ∧ F v

theorem Fields.one {α : Type} {P : Program} {f : Field} {off t : Nat} {d : Kd α} {F : α → Prop} (ht : f.type = t) (ho : f.offset = off) (h : Opens P t d F) : Fields P [f] off d F := by
  subst ht
  refine ⟨fun {H enc w base spare held fuel cs} hl hf => ?_⟩
  obtain ⟨x, hx⟩ := hf f (by simp)
  rw [h.sz, ho, List.take_of_length_le (by rw [List.length_drop]; omega)] at hx
  exact h.go hx
theorem Fields.cons {α β : Type} {P : Program} {f : Field} {fs : List Field} {off t : Nat} {a : Kd α} {b : Kd β} {F : α → Prop} {G : β → Prop} (ht : f.type = t) (ho : f.offset = off) (h : Opens P t a F) (hs : Fields P fs (off + a.sz) b G) :
    Fields P (f :: fs) off (Kd.pair a b) (fun x => F x.1 ∧ G x.2) := by
  subst ht
  refine ⟨fun {H enc w base spare held fuel cs} hl hf => ?_⟩
  have hl' : cs.length = off + (a.sz + b.sz) := hl
  obtain ⟨x, hx⟩ := hf f (by simp)
  rw [h.sz, ho] at hx
  obtain ⟨v, hv, hF⟩ := h.go hx
  obtain ⟨u, hu, hG⟩ := hs.go (cs := cs) (by omega) (fun g hg => hf g (by simp [hg]))
  refine ⟨(v, u), ⟨_, _, ?_, hv, hu⟩, hF, hG⟩
  rw [← List.drop_drop, List.take_append_drop]
theorem Opens.struct {α : Type} {P : Program} {t : TypeId} {fs : Array Field} {d : Kd α} {F : α → Prop} (hu : P.underlying t = some (.struct fs)) (hs : P.cellsOf t = d.sz) (h : Fields P fs.toList 0 d F) : Opens P t d F := by
  refine ⟨hs, fun {H enc w base spare held fuel cs x} ht => ?_⟩
  obtain ⟨xs, n, _, _, hl, hxl, hf⟩ := DataW.trod_struct hu ht
  obtain ⟨v, hv, hF⟩ := h.go (cs := cs) (by omega) (fun f hm => by
    obtain ⟨i, hi⟩ := List.getElem?_of_mem hm
    have hi' : fs[i]? = some f := by simpa using hi
    have h1 := hf i f hi'
    have hlt : i < xs.length := by rw [hxl]; exact (Array.getElem?_eq_some_iff.1 hi').1
    exact ⟨xs[i], by rw [h1, List.getElem?_eq_getElem hlt]⟩)
  exact ⟨v, by simpa using hv, hF⟩
theorem Opens.iso {α β : Type} {P : Program} {t : TypeId} {d : Kd α} {F : α → Prop} (h : Opens P t d F) (f : β → α) (g : α → β) (hg : ∀ a, f (g a) = a) : Opens P t (Kd.iso d f) (fun x => F (f x)) :=
  ⟨h.sz, fun ht => by
    obtain ⟨v, hv, hF⟩ := h.go ht
    refine ⟨g v, ?_, ?_⟩
    · show d.K _ (f (g v)) _
      rw [hg]; exact hv
    · show F (f (g v))
      rw [hg]; exact hF⟩
theorem Opens.val {α : Type} {P : Program} {t : TypeId} {d : Kd α} {F : α → Prop} (h : Opens P t d F) {H : Type} {enc : TypeId × Value → H} {w : World} {base : Nat} {spare : Nat → Bool} {held : Bool} {v : Value} {y : DataW H} {ps : List MemPlace} (hd : DataW.Trod enc P w base spare held t v y ps) :
    ∃ x : α, d.K w x v.cells.toList ∧ F x := by
  obtain ⟨fuel, hf⟩ := hd
  exact h.go hf

theorem K_int {w : World} {k : IntKind} {n : Int} {cs : List Value} (h : (Kd.int k).K w n cs) : cs = [.int k n] := h
theorem K_slice {α : Type} {e : Nat} {d : Kd α} {w : World} {xs : List α} {cs : List Value} (h : (Kd.slice e d).K w xs cs) : ∃ A c, cs = [.slice A xs.length c] ∧ xs.length ≤ c ∧ Kd.C d w A xs.length xs := h
theorem K_pair {α β : Type} {a : Kd α} {b : Kd β} {w : World} {x : α × β} {cs : List Value} (h : (Kd.pair a b).K w x cs) : ∃ c0 c1, cs = c0 ++ c1 ∧ a.K w x.1 c0 ∧ b.K w x.2 c1 := h
theorem val_agg {cs : Array Value} {l : List Value} (h : (Value.agg cs).cells.toList = l) : Value.agg cs = Value.agg l.toArray := by
  rw [← h]; simp [Value.cells]
end Go.Proofs.Ytlkofdedkfmaeaa.Open
