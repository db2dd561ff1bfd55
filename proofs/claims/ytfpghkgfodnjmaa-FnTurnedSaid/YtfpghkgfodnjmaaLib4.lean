/- Sealed bytes: an inverted bit is detected, and inverted again it is as it was. No condition. -/
import Derived.Test.YtfpghkgfodnjmaaLib2
namespace Go.Proofs.YtfpghkgfodnjmaaLib
open Go.RowKit Go.Proofs.YtfpghkgfodnjmaaW.PrintWords Go.Proofs.YtfpghkgfodnjmaaW.PrintMore
theorem flip_all : ∀ x : Fin 256, ∀ m : Fin 8, bits .xor .u8 ((x.val : Nat) : Int) (shl .u8 1 ((m.val : Nat) : Int)) ≠ ((x.val : Nat) : Int) ∧ 0 ≤ bits .xor .u8 ((x.val : Nat) : Int) (shl .u8 1 ((m.val : Nat) : Int)) ∧
    bits .xor .u8 ((x.val : Nat) : Int) (shl .u8 1 ((m.val : Nat) : Int)) ≤ 255 ∧ bits .xor .u8 (bits .xor .u8 ((x.val : Nat) : Int) (shl .u8 1 ((m.val : Nat) : Int))) (shl .u8 1 ((m.val : Nat) : Int)) = ((x.val : Nat) : Int) := by decide +kernel
theorem flip {x m : Int} (h0 : 0 ≤ x) (h1 : x ≤ 255) (m0 : 0 ≤ m) (m1 : m < 8) : bits .xor .u8 x (shl .u8 1 m) ≠ x ∧ 0 ≤ bits .xor .u8 x (shl .u8 1 m) ∧ bits .xor .u8 x (shl .u8 1 m) ≤ 255 ∧ bits .xor .u8 (bits .xor .u8 x (shl .u8 1 m)) (shl .u8 1 m) = x := by
  obtain ⟨a, rfl⟩ := Int.eq_ofNat_of_zero_le h0
  obtain ⟨b, rfl⟩ := Int.eq_ofNat_of_zero_le m0
  exact flip_all ⟨a, by omega⟩ ⟨b, by omega⟩
theorem sum_set : ∀ (l : List Int) (j : Nat) (v : Int) (h : j < l.length), (l.set j v).sum = l.sum - l[j] + v
  | [], j, v, h => by simp at h
  | a :: l, 0, v, h => by simp [List.set]; omega
  | a :: l, j + 1, v, h => by
    have := sum_set l j v (by simpa using h)
    simp only [List.set, List.sum_cons, List.getElem_cons_succ, this]
    omega
theorem Bs.set {l : List Int} (h : Bs l) (j : Nat) {v : Int} (h0 : 0 ≤ v) (h1 : v ≤ 255) : Bs (l.set j v) := by
  intro x hx
  rcases List.mem_or_eq_of_mem_set hx with hx | rfl
  · exact h x hx
  · exact ⟨h0, h1⟩
/-- What one inverted bit does: one byte is another one. -/
theorem turn_form {s : List Int} (hs : Bs s) {b : Int} (h0 : 0 ≤ b) (h1 : b < 8 * s.length) :
    ∃ (j : Nat) (v : Int) (hj : j < s.length), turn s b = s.set j v ∧ v ≠ s[j] ∧ 0 ≤ v ∧ v ≤ 255 ∧ turn (turn s b) b = s := by
  have hj : (b / 8).toNat < s.length := by omega
  have hx := hs s[(b / 8).toNat] (List.getElem_mem _)
  have hr : rd s (b / 8) = s[(b / 8).toNat] := by
    have := rd_nat s (b / 8).toNat hj
    rwa [Int.toNat_of_nonneg (by omega)] at this
  obtain ⟨f1, f2, f3, f4⟩ := flip hx.1 hx.2 (m := b % 8) (by omega) (by omega)
  have ht : turn s b = s.set (b / 8).toNat (bits .xor .u8 s[(b / 8).toNat] (shl .u8 1 (b % 8))) := by
    unfold turn
    rw [if_pos ⟨h0, by omega⟩, hr]
  refine ⟨(b / 8).toNat, _, hj, ht, f1, f2, f3, ?_⟩
  have hr2 : rd (s.set (b / 8).toNat (bits .xor .u8 s[(b / 8).toNat] (shl .u8 1 (b % 8)))) (b / 8) = bits .xor .u8 s[(b / 8).toNat] (shl .u8 1 (b % 8)) := by
    have := rd_nat (s.set (b / 8).toNat (bits .xor .u8 s[(b / 8).toNat] (shl .u8 1 (b % 8)))) (b / 8).toNat (by rw [List.length_set]; exact hj)
    rw [Int.toNat_of_nonneg (by omega)] at this
    rw [this, List.getElem_set_self]
  rw [ht]
  unfold turn
  rw [if_pos ⟨h0, by rw [List.length_set]; omega⟩, hr2, f4, List.set_set]
  exact List.set_getElem_self hj
theorem sealB_bs {x : List Int} (h : Bs x) : Bs (sealB x) := h.append (four_bs _)
theorem open_seal (x : List Int) : openB (sealB x) = (x, true) := by
  have hl : (sealB x).length - 4 = x.length := by rw [sealB_length]; omega
  unfold openB
  rw [if_neg (by rw [sealB_length]; omega), hl]
  have h1 : (sealB x).take x.length = x := by simp [sealB]
  have h2 : (sealB x).drop x.length = four (chk x 1 0) := by simp [sealB]
  rw [h1, h2, if_pos rfl]
/-- Sealed bytes of which one bit is inverted are none. -/
theorem open_turned {x : List Int} (hx : Bs x) {b : Int} (h0 : 0 ≤ b) (h1 : b < 8 * (sealB x).length) : openB (turn (sealB x) b) = ([], false) := by
  obtain ⟨j, v, hj, ht, hv, v0, v1, _⟩ := turn_form (sealB_bs hx) h0 h1
  rw [ht]
  have hl : (sealB x).length = x.length + 4 := sealB_length x
  unfold openB
  have hl2 : ((sealB x).set j v).length - 4 = x.length := by rw [List.length_set]; omega
  rw [if_neg (by rw [List.length_set]; omega), hl2]
  rw [if_neg]
  intro hf
  by_cases hjx : j < x.length
  · have e1 : ((sealB x).set j v).take x.length = x.set j v := by
      unfold sealB
      rw [List.set_append_left _ _ hjx]
      have : x.length = (x.set j v).length := by simp
      rw [this, List.take_left]
    have e2 : ((sealB x).set j v).drop x.length = four (chk x 1 0) := by
      unfold sealB
      rw [List.set_append_left _ _ hjx]
      have : x.length = (x.set j v).length := by simp
      rw [this, List.drop_left]
    rw [e1, e2] at hf
    have r1 := chk_range (x.set j v) 1 0 (by decide) (by decide) (by decide) (by decide)
    have r2 := chk_range x 1 0 (by decide) (by decide) (by decide) (by decide)
    have hc := four_inj hf r1.1 r1.2 r2.1 r2.2
    have l1 := chk_low (x.set j v) 1 0 (by decide) (by decide)
    have l2 := chk_low x 1 0 (by decide) (by decide)
    rw [hc, l2, sum_set x j v hjx] at l1
    have hg : (sealB x)[j] = x[j] := by
      unfold sealB
      exact List.getElem_append_left hjx
    rw [hg] at hv
    have hb := hx x[j] (List.getElem_mem _)
    omega
  · have e1 : ((sealB x).set j v).take x.length = x := by
      rw [List.take_set_of_le (by omega)]
      simp [sealB]
    rw [e1] at hf
    have e2 := congrArg (fun l => l[j - x.length]?) hf
    simp only [List.getElem?_drop] at e2
    rw [show x.length + (j - x.length) = j by omega, List.getElem?_set_self (by omega)] at e2
    have e3 : (four (chk x 1 0))[j - x.length]? = some (sealB x)[j] := by
      have : (sealB x)[j]? = (four (chk x 1 0))[j - x.length]? := by
        unfold sealB
        exact List.getElem?_append_right (by omega)
      rw [← this]
      exact List.getElem?_eq_getElem hj
    rw [e3] at e2
    injection e2 with e2
    exact hv e2.symm
end Go.Proofs.YtfpghkgfodnjmaaLib
