/- What an argument's cells read as, type by type: whole numbers, bools, strings, slices, structs: for rows over arguments that are structs. No condition. -/
import Derived.Test.YtfpghkgfodnjmaaLib1
import Derived.Deep.Slices
import Derived.Lib.SmallJoins
import Derived.ProofKit
import Derived.OpenShut
namespace Go.Proofs.YtfpghkgfodnjmaaLib
open Go.ChangeShapes Go.WideShapes Go.ChangeAt Go.RowKit Go.Deep Go.Proofs.YtfpghkgfodnjmaaW.PrintWords

/-- Cells of type t that read as data show some a, of which G is known. -/
def Opn {α : Type} (P : Program) (W : World) (t : TypeId) (d : Kd α) (G : α → Prop) : Prop :=
  ∀ {H : Type} (enc : TypeId × Value → H) (fuel : Nat) (cs : List Value) (x : DataW H × List MemPlace), DataW.trod enc P W 0 (fun _ => true) true fuel t cs = some x → ∃ a, d.K W a cs ∧ G a

section
variable {P : Program} {W : World} {t e : TypeId} {α β : Type}
theorem opn_int {k : IntKind} (ht : P.underlying t = some (.int k)) : Opn P W t (Kd.int k) (fun n => (Lit.int k n).wf = true) := by
  intro H enc fuel cs x h
  obtain ⟨m, rfl, rfl, hw⟩ := DataW.trod_int ht h
  exact ⟨m, rfl, hw⟩
theorem opn_bool (ht : P.underlying t = some .bool) : Opn P W t Kd.bool (fun _ => True) := by
  intro H enc fuel cs x h
  obtain ⟨m, rfl, rfl⟩ := DataW.trod_bool ht h
  exact ⟨m, rfl, trivial⟩
theorem opn_string (ht : P.underlying t = some .string) : Opn P W t Kd.string (fun s => s.size ≤ maxLen) := by
  intro H enc fuel cs x h
  obtain ⟨m, rfl, rfl, hw⟩ := DataW.trod_string ht h
  exact ⟨m, rfl, hw⟩
theorem cells_at {w : World} {a : Addr} {n : Nat} {cs : List Value} (h : w.cells? 0 a n = some cs) (i : Nat) (u : Value) (hu : cs[i]? = some u) : w.cell? (a.add i) = some u := by
  obtain ⟨_, hl, hc⟩ := World.cells?_some h
  rw [hc i (by have := (List.getElem?_eq_some_iff.1 hu).1; omega), hu]
theorem list_of {p : Nat → α → Prop} : ∀ n, (∀ i, i < n → ∃ x, p i x) → ∃ l : List α, l.length = n ∧ ∀ i x, l[i]? = some x → p i x
  | 0, _ => ⟨[], rfl, fun i x h => by simp at h⟩
  | n + 1, h => by
    obtain ⟨l, hl, hp⟩ := list_of n (fun i hi => h i (by omega))
    obtain ⟨x, hx⟩ := h n (by omega)
    refine ⟨l ++ [x], by simp [hl], fun i y hy => ?_⟩
    by_cases hi : i < n
    · rw [List.getElem?_append_left (by omega)] at hy
      exact hp i y hy
    · have hlt := (List.getElem?_eq_some_iff.1 hy).1
      have : i = n := by simp [hl] at hlt; omega
      subst this
      rw [List.getElem?_append_right (by omega)] at hy
      simp [hl] at hy
      exact hy ▸ hx
theorem opn_slice {d : Kd α} {G : α → Prop} (ht : P.underlying t = some (.slice e)) (hc : P.cellsOf e = d.sz) (h : Opn P W e d G) : Opn P W t (Kd.slice e d) (fun l => l.length ≤ maxLen ∧ ∀ x ∈ l, G x) := by
  intro H enc fuel cs x hx
  rcases open_slice ht hx with ⟨rfl, rfl⟩ | ⟨a, len, cap, m, n, D, Pl, rfl, _, hl, hm, hmm, rfl, hel⟩
  · exact ⟨[], ⟨none, 0, rfl, Nat.le_refl _, rfl, by simp, fun h => absurd h (by simp)⟩, by simp, by simp⟩
  · simp only [if_true] at hmm
    subst hmm
    obtain ⟨l, hll, hf⟩ := list_of (p := fun i (y : α) => G y ∧ ∃ cs', W.cells? 0 (a.add (i * P.cellsOf e)) (P.cellsOf e) = some cs' ∧ d.K W y cs') len (fun i hi => by
      obtain ⟨cs', h1, h2⟩ := hel i (by omega)
      obtain ⟨y, hy, hg⟩ := h enc _ _ _ h2
      exact ⟨y, hg, cs', h1, hy⟩)
    unfold maxLen at hm
    refine ⟨l, ⟨some a, m, by rw [hll], by omega, rfl, by omega, fun _ => ⟨a, rfl, fun j p hj => ?_⟩⟩, by unfold maxLen; omega, ?_⟩
    · obtain ⟨_, cs', h1, h2⟩ := hf j p hj
      refine ⟨cs', d.K_len h2, h2, fun i u hu => ?_⟩
      have := cells_at h1 i u hu
      rwa [Go.Deep.add_add, hc] at this
    · intro y hy
      obtain ⟨i, hi⟩ := List.getElem?_of_mem hy
      exact (hf i y hi).1
/-- The fields of a struct, from one on. -/
def OpnF (P : Program) (W : World) (fs : List Field) (o : Nat) (d : Kd α) (G : α → Prop) : Prop :=
  ∀ {H : Type} (enc : TypeId × Value → H) (fuel : Nat) (cs : List Value), (∀ f ∈ fs, ∃ y, DataW.trod enc P W 0 (fun _ => true) true fuel f.type ((cs.drop f.offset).take (P.cellsOf f.type)) = some y) → ∃ a, d.K W a ((cs.drop o).take d.sz) ∧ G a
theorem opnF_one {f : Field} {o : Nat} {d : Kd α} {G : α → Prop} (ho : f.offset = o) (hc : P.cellsOf f.type = d.sz) (h : Opn P W f.type d G) : OpnF P W [f] o d G := by
  intro H enc fuel cs hf
  obtain ⟨y, hy⟩ := hf f (by simp)
  rw [ho, hc] at hy
  exact h enc _ _ _ hy
theorem opnF_cons {f : Field} {fs : List Field} {o : Nat} {d : Kd α} {d' : Kd β} {G : α → Prop} {G' : β → Prop} (ho : f.offset = o) (hc : P.cellsOf f.type = d.sz) (h : Opn P W f.type d G) (k : OpnF P W fs (o + d.sz) d' G') :
    OpnF P W (f :: fs) o (Kd.pair d d') (fun x => G x.1 ∧ G' x.2) := by
  intro H enc fuel cs hf
  obtain ⟨y, hy⟩ := hf f (by simp)
  rw [ho, hc] at hy
  obtain ⟨a, ha, hg⟩ := h enc _ _ _ hy
  obtain ⟨b, hb, hg'⟩ := k enc fuel cs (fun f' hf' => hf f' (by simp [hf']))
  refine ⟨(a, b), ⟨_, _, ?_, ha, hb⟩, hg, hg'⟩
  show (cs.drop o).take (d.sz + d'.sz) = _
  rw [List.take_add, List.drop_drop]
theorem opn_struct {fs : Array Field} {d : Kd α} {G : α → Prop} (ht : P.underlying t = some (.struct fs)) (hc : P.cellsOf t = d.sz) (h : OpnF P W fs.toList 0 d G) : Opn P W t d G := by
  intro H enc fuel cs x hx
  obtain ⟨xs, n, _, _, hl, hlen, hf⟩ := DataW.trod_struct ht hx
  obtain ⟨a, ha, hg⟩ := h enc n cs (fun f hfm => by
    obtain ⟨i, hi⟩ := List.getElem?_of_mem hfm
    have := hf i f (by simpa using hi)
    have hil : i < xs.length := by
      have := (List.getElem?_eq_some_iff.1 hi).1
      simp at this hlen; omega
    exact ⟨xs[i], by rw [this]; simp [hil]⟩)
  rw [List.drop_zero, List.take_of_length_le (by omega)] at ha
  exact ⟨a, ha, hg⟩
theorem opn_iso {d : Kd α} {G : α → Prop} {f : β → α} (g : α → β) (hfg : ∀ a, f (g a) = a) (h : Opn P W t d G) : Opn P W t (Kd.iso d f) (fun b => G (f b)) := by
  intro H enc fuel cs x hx
  obtain ⟨a, ha, hg⟩ := h enc fuel cs x hx
  exact ⟨g a, by show d.K W (f (g a)) cs; rw [hfg]; exact ha, by show G (f (g a)); rw [hfg]; exact hg⟩
theorem Opn.imp {d : Kd α} {G G' : α → Prop} (h : Opn P W t d G) (k : ∀ a, G a → G' a) : Opn P W t d G' := by
  intro H enc fuel cs x hx
  obtain ⟨a, ha, hg⟩ := h enc fuel cs x hx
  exact ⟨a, ha, k a hg⟩
end
end Go.Proofs.YtfpghkgfodnjmaaLib
