/- What an argument reads as: whatever the form can read at a type built of whole numbers, bools, structs and slices is a value of that type's kind; there are no conditions. -/
import Derived.Test.YtpdnabhpkdchjaaP0
import Derived.Test.YtpdnabhpkdchjaaFacts
import Derived.DataElems
import Derived.ChangeArms
import Derived.WideShapes
import Derived.ProofKit
import Derived.OpenShut
import Derived.ChangeOld
import Derived.SizedLaws
namespace Go.Proofs.Ytpdnabhpkdchjaa.Open
open Go.RowKit Go.Proofs.YtpdnabhpkdchjaaW.PrintWords Go.Proofs.YtpdnabhpkdchjaaW.PrintLast Go.Proofs.YtpdnabhpkdchjaaW.PrintMore
open Go.WideShapes
set_option linter.unusedVariables false

/-- Whatever reads at type t is of the kind d. -/
def Opens {α : Type} (P : Program) (t : TypeId) (d : Kd α) : Prop :=
  ∀ (H : Type) (enc : TypeId × Value → H) (w : World) (base : Nat) (spare : Nat → Bool) (held : Bool) (fuel : Nat) (cs : List Value) (x : DataW H × List MemPlace),
    DataW.trod enc P w base spare held fuel t cs = some x → ∃ a, d.K w a cs

variable {P : Program} {t : TypeId}
theorem opens_int {k : IntKind} (ht : P.underlying t = some (.int k)) : Opens P t (Kd.int k) := by
  intro H enc w base spare held fuel cs x h
  obtain ⟨n, rfl, _⟩ := DataW.trod_int ht h
  exact ⟨n, rfl⟩
theorem opens_bool (ht : P.underlying t = some .bool) : Opens P t Kd.bool := by
  intro H enc w base spare held fuel cs x h
  obtain ⟨n, rfl, _⟩ := DataW.trod_bool ht h
  exact ⟨n, rfl⟩
theorem opens_iso {α β : Type} {d : Kd α} (f : β → α) (g : α → β) (hg : ∀ a, f (g a) = a) (h : Opens P t d) : Opens P t (Kd.iso d f) := by
  intro H enc w base spare held fuel cs x hx
  obtain ⟨a, ha⟩ := h H enc w base spare held fuel cs x hx
  exact ⟨g a, by show d.K w (f (g a)) cs; rw [hg]; exact ha⟩

theorem mapM_get {α β : Type} {f : α → Option β} : ∀ {l : List α} {r : List β}, l.mapM f = some r → r.length = l.length ∧ ∀ (i : Nat) u, r[i]? = some u → ∃ y, l[i]? = some y ∧ f y = some u
  | [], r, h => by
    simp at h
    subst h
    exact ⟨rfl, fun i u hu => by simp at hu⟩
  | y :: l, r, h => by
    simp only [List.mapM_cons] at h
    cases hy : f y with
    | none => simp [hy] at h
    | some b =>
      cases hl : l.mapM f with
      | none => simp [hy, hl] at h
      | some r' =>
        simp [hy, hl] at h
        subst h
        obtain ⟨h1, h2⟩ := mapM_get hl
        refine ⟨by simp [h1], fun i u hu => ?_⟩
        cases i with
        | zero =>
          simp at hu
          subst hu
          exact ⟨y, rfl, hy⟩
        | succ i =>
          simp at hu
          obtain ⟨z, hz, hf⟩ := h2 i u hu
          exact ⟨z, by simpa using hz, hf⟩

theorem opens_slice {α : Type} {d : Kd α} {e : TypeId} (ht : P.underlying t = some (.slice e)) (hc : P.cellsOf e = d.sz) (he : Opens P e d) : Opens P t (Kd.slice e d) := by
  intro H enc w base spare held fuel cs x h
  rcases DataW.trod_slice ht h with ⟨rfl, _⟩ | ⟨a, len, cap, elems, rest, n, _, rfl, _, hb, hl, hm, hlen, hel, _, _⟩
  · exact ⟨[], none, 0, rfl, Nat.le_refl _, rfl, by simp, fun hp => absurd hp (by simp)⟩
  · have each : ∀ i : Fin len, ∃ q : α × List Value, d.K w q.1 q.2 ∧ q.2.length = d.sz ∧ ∀ j u, q.2[j]? = some u → w.cell? (a.add (i.1 * d.sz + j)) = some u := by
      intro i
      have h1 := hel i.1 i.2
      rw [hc] at h1
      obtain ⟨y, hy⟩ : ∃ y, elems[i.1]? = some y := ⟨_, List.getElem?_eq_getElem (by rw [hlen]; exact i.2)⟩
      rw [hy, Option.bind_eq_some_iff] at h1
      obtain ⟨c, h2, h3⟩ := h1
      obtain ⟨v, hv⟩ := he H enc w base spare held n c y h3
      refine ⟨(v, c), hv, d.K_len hv, fun j u hu => ?_⟩
      unfold World.cells? at h2
      rw [if_pos (by unfold Addr.add; split <;> exact hb)] at h2
      obtain ⟨_, h4⟩ := mapM_get h2
      obtain ⟨z, hz, hz2⟩ := h4 j u hu
      have : z = j := by
        have := List.getElem?_eq_some_iff.1 hz
        obtain ⟨hlt, hz'⟩ := this
        simpa using hz'.symm
      subst this
      rw [Addr.add_add] at hz2
      exact hz2
    have hmx : maxLen = 9223372036854775807 := by unfold maxLen; rfl
    refine ⟨List.ofFn fun i : Fin len => (Classical.choose (each i)).1, some a, cap, by simp, by simpa using hl, ?_, by simp; omega, fun hp => ⟨a, rfl, fun j p hj => ?_⟩⟩
    · rfl
    · have hj' : j < len := by
        have := (List.getElem?_eq_some_iff.1 hj).1
        simpa using this
      have hp' : p = (Classical.choose (each ⟨j, hj'⟩)).1 := by
        rw [List.getElem?_ofFn, dif_pos hj'] at hj
        exact (Option.some.inj hj).symm
      obtain ⟨h1, h2, h3⟩ := Classical.choose_spec (each ⟨j, hj'⟩)
      exact ⟨_, h2, by rw [hp']; exact h1, h3⟩

/-- The cells from a field on. -/
def OpensF {α : Type} (P : Program) (fs : List Field) (off : Nat) (d : Kd α) : Prop :=
  ∀ (H : Type) (enc : TypeId × Value → H) (w : World) (base : Nat) (spare : Nat → Bool) (held : Bool) (n : Nat) (cs : List Value),
    (∀ f ∈ fs, ∃ x, DataW.trod enc P w base spare held n f.type ((cs.drop f.offset).take (P.cellsOf f.type)) = some x) → cs.length = off + d.sz → ∃ a, d.K w a (cs.drop off)
theorem opensF_one {α : Type} {d : Kd α} {f : Field} {off : Nat} (ho : f.offset = off) (hc : P.cellsOf f.type = d.sz) (h : Opens P f.type d) : OpensF P [f] off d := by
  intro H enc w base spare held n cs hf hl
  obtain ⟨x, hx⟩ := hf f List.mem_cons_self
  obtain ⟨a, ha⟩ := h H enc w base spare held n _ x hx
  refine ⟨a, ?_⟩
  rw [ho, hc, List.take_of_length_le (by simp; omega)] at ha
  exact ha
theorem opensF_cons {α β : Type} {d : Kd α} {d2 : Kd β} {f : Field} {fs : List Field} {off off2 : Nat} (ho : f.offset = off) (hc : P.cellsOf f.type = d.sz) (h2 : off2 = off + d.sz) (h : Opens P f.type d) (hr : OpensF P fs off2 d2) : OpensF P (f :: fs) off (Kd.pair d d2) := by
  intro H enc w base spare held n cs hf hl
  have hl' : cs.length = off + (d.sz + d2.sz) := hl
  obtain ⟨x, hx⟩ := hf f List.mem_cons_self
  obtain ⟨a, ha⟩ := h H enc w base spare held n _ x hx
  obtain ⟨b, hb⟩ := hr H enc w base spare held n cs (fun g hg => hf g (List.mem_cons_of_mem _ hg)) (by omega)
  refine ⟨(a, b), (cs.drop off).take d.sz, cs.drop off2, ?_, ?_, hb⟩
  · rw [h2, ← List.drop_drop, List.take_append_drop]
  · rw [ho, hc] at ha
    exact ha
theorem opens_struct {α : Type} {d : Kd α} {fs : Array Field} (ht : P.underlying t = some (.struct fs)) (hc : P.cellsOf t = d.sz) (h : OpensF P fs.toList 0 d) : Opens P t d := by
  intro H enc w base spare held fuel cs x hx
  obtain ⟨xs, n, _, _, hl, hlen, hf⟩ := DataW.trod_struct ht hx
  obtain ⟨a, ha⟩ := h H enc w base spare held n cs (fun f hm => by
    obtain ⟨i, hi⟩ := List.getElem?_of_mem hm
    have hi' : fs[i]? = some f := by simpa using hi
    have := hf i f hi'
    have hlt : i < xs.length := by
      rw [hlen]
      exact (Array.getElem?_eq_some_iff.1 hi').1
    exact ⟨_, this.trans (List.getElem?_eq_getElem hlt)⟩) (by omega)
  exact ⟨a, by simpa using ha⟩

/-- An argument by its kind. -/
theorem open_arg {α : Type} {d : Kd α} (h : Opens P t d) {H : Type} {enc : TypeId × Value → H} {w : World} {base : Nat} {spare : Nat → Bool} {held : Bool} {v : Value} {x : DataW H} {ps : List MemPlace}
    (hx : DataW.Trod enc P w base spare held t v x ps) : ∃ a, d.K w a v.cells.toList := by
  obtain ⟨fuel, hf⟩ := hx
  exact h H enc w base spare held fuel _ _ hf

end Go.Proofs.Ytpdnabhpkdchjaa.Open
