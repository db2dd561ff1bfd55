/- The pure statement of FnExactGetWord: at every argument the law answers true. No condition. -/
import Derived.Test.YteconfmfgehoeaaPFnExactGetWordx1
import Derived.Test.YteconfmfgehoeaaLib1
import Derived.Test.YteconfmfgehoeaaLib2
set_option linter.unusedVariables false
set_option linter.unusedSimpArgs false
namespace Go.Proofs.Yteconfmfgehoeaa.Pure
open Go.RowKit Go.Proofs.Yteconfmfgehoeaa.PFnExactGetWord Go.Proofs.YteconfmfgehoeaaW.PrintWords Go.Proofs.YteconfmfgehoeaaW.PrintLast Go.Proofs.YteconfmfgehoeaaW.PrintMore Go.Proofs.YteconfmfgehoeaaLib

/-! laws_toByteS -/
theorem laws_toByteS_l0 (x : List Int) (hx : x.length ≤ 140737488355328) : ∀ (d : Nat) (acc : List Int) (i : Nat), i + d = x.length → acc.length = x.length → acc.take i = x.take i → Ev (fun k => laws_toByteS.l0 k x acc (i : Int)) x := by
  intro d
  induction d with
  | zero =>
    intro acc i hi hl ht
    refine Ev.step (fun _ => laws_toByteS.l0.eq_2 ..) ?_
    refine ev_ifn (by omega) (ev_some ?_)
    have h1 : acc.take i = acc := List.take_of_length_le (by omega)
    have h2 : x.take i = x := List.take_of_length_le (by omega)
    rw [h1, h2] at ht
    exact ht
  | succ d ih =>
    intro acc i hi hl ht
    refine Ev.step (fun _ => laws_toByteS.l0.eq_2 ..) ?_
    refine ev_ifp (by omega) (ev_ifp (by omega) (ev_ifp (by omega) ?_))
    simp only [wnext i (by omega)]
    refine ih _ (i + 1) (by omega) (by rw [List.length_set]; exact hl) ?_
    rw [rd_nat x i (by omega), Int.toNat_natCast]
    apply List.ext_getElem?
    intro j
    rw [List.getElem?_take, List.getElem?_take]
    by_cases hj : j < i + 1
    · rw [if_pos hj, if_pos hj]
      by_cases hji : j = i
      · subst hji
        rw [List.getElem?_set_self (by omega), List.getElem?_eq_getElem (by omega)]
      · rw [List.getElem?_set_ne (by omega)]
        have := congrArg (fun l => l[j]?) ht
        simp only [List.getElem?_take] at this
        rwa [if_pos (by omega), if_pos (by omega)] at this
    · rw [if_neg hj, if_neg hj]
theorem laws_toByteS_ev (x : List Int) (hx : x.length ≤ 140737488355328) : Ev (fun k => laws_toByteS.f k x) x := by
  unfold laws_toByteS.f
  refine ev_ifp (by omega) (ev_ifp (by omega) ?_)
  exact laws_toByteS_l0 x hx x.length _ 0 (by omega) (by simp) (by simp)

/-! laws_eqByteS -/
theorem laws_eqByteS_l0 (x : List Int) (hx : x.length ≤ 140737488355328) : ∀ (d i : Nat), i + d = x.length → Ev (fun k => laws_eqByteS.l0 k x x (i : Int)) true := by
  intro d
  induction d with
  | zero =>
    intro i hi
    refine Ev.step (fun _ => laws_eqByteS.l0.eq_2 ..) ?_
    exact ev_ifn (by omega) (ev_some rfl)
  | succ d ih =>
    intro i hi
    refine Ev.step (fun _ => laws_eqByteS.l0.eq_2 ..) ?_
    refine ev_ifp (by omega) (ev_ifp (by omega) (ev_ifp (by omega) (ev_ifp rfl ?_)))
    simp only [wnext i (by omega)]
    exact ih (i + 1) (by omega)
theorem laws_eqByteS_ev (x : List Int) (hx : x.length ≤ 140737488355328) : Ev (fun k => laws_eqByteS.f k x x) true := by
  unfold laws_eqByteS.f
  exact ev_ifp rfl (laws_eqByteS_l0 x hx x.length 0 (by omega))

/-! spec_Round -/
theorem spec_Round_eq (n : Int) : spec_Round.f n = some (round n) := by
  unfold spec_Round.f round
  have h := bits_and_mask n 32 (by decide)
  simp only [Int.reducePow, Int.reduceSub] at h
  rw [h]
  by_cases hc : n % 4294967296 > 2147483647
  · rw [if_pos hc, w64 (by omega) (by omega)]; congr 1; omega
  · rw [if_neg hc]; congr 1; omega

/-! spec_GetWord -/
theorem spec_GetWord_eq (l : List Int) (i : Int) (hl : Bs l) (hs : l.length ≤ 140737488355328) : spec_GetWord.f l i = some (getWord l i) := by
  unfold spec_GetWord.f getWord
  by_cases h0 : i < 0
  · rw [if_pos h0, if_neg (by omega)]
  · rw [if_neg h0, w64 (n := (l.length : Int) - 4) (by omega) (by omega)]
    by_cases h1 : i > (l.length : Int) - 4
    · rw [if_pos h1, if_neg (by omega)]
    · rw [if_neg h1, if_pos (by omega), w64 (n := i + 1) (by omega) (by omega), w64 (n := i + 2) (by omega) (by omega), w64 (n := i + 3) (by omega) (by omega), w64 (n := i + 4) (by omega) (by omega)]
      rw [if_pos (by omega), if_pos (by omega), if_pos (by omega), if_pos (by omega), if_pos (by omega), if_pos (by omega), if_pos (by omega), if_pos (by omega)]
      rw [le4 _ _ _ _ (rd_bs hl _) (rd_bs hl _) (rd_bs hl _) (rd_bs hl _), spec_Round_eq]
      rfl

/-! impl_Round -/
theorem impl_Round_eq (n : Int) : impl_Round.f n = some (round n) := by
  unfold impl_Round.f
  rw [w64 (by rw [w32]; omega) (by rw [w32]; omega), w32]; rfl

/-! impl_GetWord -/
theorem impl_GetWord_eq (l : List Int) (i : Int) (hl : Bs l) (hs : l.length ≤ 140737488355328) : impl_GetWord.f l i = some (getWord l i) := by
  unfold impl_GetWord.f getWord
  by_cases h0 : i < 0
  · rw [if_pos h0, if_neg (by omega)]
  · rw [if_neg h0]
    by_cases h2 : (l.length : Int) < 4
    · rw [if_pos h2, if_neg (by omega)]
    rw [if_neg h2, w64 (n := (l.length : Int) - 4) (by omega) (by omega)]
    by_cases h1 : i > (l.length : Int) - 4
    · rw [if_pos h1, if_neg (by omega)]
    · rw [if_neg h1, if_pos (by omega), w64 (n := i + 1) (by omega) (by omega), w64 (n := i + 2) (by omega) (by omega), w64 (n := i + 3) (by omega) (by omega), w64 (n := i + 4) (by omega) (by omega)]
      rw [if_pos (by omega), if_pos (by omega), if_pos (by omega), if_pos (by omega), if_pos (by omega), if_pos (by omega), if_pos (by omega), if_pos (by omega)]
      rw [le4 _ _ _ _ (rd_bs hl _) (rd_bs hl _) (rd_bs hl _) (rd_bs hl _), impl_Round_eq]
      rfl

theorem FnExactGetWord (l : List Int) (i : Int) (h : l.length ≤ maxLen ∧ ∀ x ∈ l, (Lit.int .u8 x).wf = true) (hi : (Lit.int .i64 i).wf = true) : ∃ k, laws_FnExactGetWord.f k l i = some true := by
  obtain ⟨hs, hb⟩ := h
  unfold maxLen at hs
  have hB := bs_of hb
  refine Ev.rounds (r := true) ?_
  unfold laws_FnExactGetWord.f
  refine ev_if (fun _ => ev_some rfl) (fun h => ?_)
  have t := laws_toByteS_ev l (by omega)
  refine Ev.bind t (ev_call (spec_GetWord_eq l i hB (by omega)) (Ev.bind t (ev_call (impl_GetWord_eq l i hB (by omega)) (ev_ifp rfl (ev_ifp rfl ?_)))))
  refine Ev.step (fun _ => laws_FnExactGetWord.j0.eq_2 ..) ?_
  refine ev_ifn (by simp) (Ev.bind t (Ev.bind (laws_eqByteS_ev l (by omega)) ?_))
  exact ev_ifp rfl (ev_some rfl)

end Go.Proofs.Yteconfmfgehoeaa.Pure
