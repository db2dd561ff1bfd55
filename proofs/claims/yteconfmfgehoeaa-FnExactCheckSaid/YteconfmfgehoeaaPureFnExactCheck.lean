/- The pure statement of FnExactCheck: at every argument the law answers true. No condition. -/
import Derived.Test.YteconfmfgehoeaaPFnExactCheckx1
import Derived.Test.YteconfmfgehoeaaLib1
import Derived.Test.YteconfmfgehoeaaLib2
set_option linter.unusedVariables false
set_option linter.unusedSimpArgs false
namespace Go.Proofs.Yteconfmfgehoeaa.Pure
open Go.RowKit Go.Proofs.Yteconfmfgehoeaa.PFnExactCheck Go.Proofs.YteconfmfgehoeaaW.PrintWords Go.Proofs.YteconfmfgehoeaaW.PrintLast Go.Proofs.YteconfmfgehoeaaW.PrintMore Go.Proofs.YteconfmfgehoeaaLib

/-! spec_Check -/
theorem spec_Check_l0 (x : List Int) (hx : Bs x) (hl : x.length ≤ 140737488355328) : ∀ (rest pre : List Int) (a b : Int), x = pre ++ rest → 0 ≤ a → a < 65521 → 0 ≤ b → b < 65521 → Ev (fun k => spec_Check.l0 k x a b (pre.length : Int)) (chk rest a b) := by
  intro rest
  induction rest with
  | nil =>
    intro pre a b he ha ha' hb hb'
    have hn : x.length = pre.length := by rw [he]; simp
    refine Ev.step (fun _ => spec_Check.l0.eq_2 ..) ?_
    refine ev_ifn (by omega) (ev_some ?_)
    rw [w64 (n := b * 65536) (by omega) (by omega), w64 (by omega) (by omega)]; rfl
  | cons c rest ih =>
    intro pre a b he ha ha' hb hb'
    have hn : x.length = pre.length + (rest.length + 1) := by rw [he]; simp
    have hc := hx c (by rw [he]; simp)
    refine Ev.step (fun _ => spec_Check.l0.eq_2 ..) ?_
    refine ev_ifp (by omega) (ev_ifp (by omega) ?_)
    have hr : rd x (pre.length : Int) = c := by rw [he]; exact rd_mid _ _ _
    simp only [hr, w64 (n := c) (by omega) (by omega), w64 (n := a + c) (by omega) (by omega), tmod_pos (n := a + c) (m := 65521) (by omega)]
    rw [w64 (n := b + (a + c) % 65521) (by omega) (by omega), tmod_pos (n := b + (a + c) % 65521) (m := 65521) (by omega)]
    simp only [wnext pre.length (by omega)]
    have := ih (pre ++ [c]) ((a + c) % 65521) ((b + (a + c) % 65521) % 65521) (by rw [he]; simp) (by omega) (by omega) (by omega) (by omega)
    simpa [chk] using this
theorem spec_Check_ev (x : List Int) (hx : Bs x) (hl : x.length ≤ 140737488355328) : Ev (fun k => spec_Check.f k x) (chk x 1 0) :=
  spec_Check_l0 x hx hl x [] 1 0 rfl (by decide) (by decide) (by decide) (by decide)

/-! laws_toByteS -/
theorem laws_toByteS_l0 (x : List Int) (hx : x.length ≤ 140737488355328) : ∀ (d : Nat) (acc : List Int) (i : Nat), i + d = x.length → acc.length = x.length → acc.take i = x.take i → Ev (fun k => laws_toByteS.l0 k x acc (i : Int)) x := by
  intro d
  induction d with
  | zero =>
    intro acc i hi hl ht
    refine Ev.step (fun _ => laws_toByteS.l0.eq_2 ..) ?_
    refine ev_ifn (by omega) (ev_some ?_)
    have h1 : acc.take i = acc := List.take_of_length_le (by omega)
    have h2 : x.take i = x := List.take_of_length_le (by omega)
    rw [h1, h2] at ht
    exact ht
  | succ d ih =>
    intro acc i hi hl ht
    refine Ev.step (fun _ => laws_toByteS.l0.eq_2 ..) ?_
    refine ev_ifp (by omega) (ev_ifp (by omega) (ev_ifp (by omega) ?_))
    simp only [wnext i (by omega)]
    refine ih _ (i + 1) (by omega) (by rw [List.length_set]; exact hl) ?_
    rw [rd_nat x i (by omega), Int.toNat_natCast]
    apply List.ext_getElem?
    intro j
    rw [List.getElem?_take, List.getElem?_take]
    by_cases hj : j < i + 1
    · rw [if_pos hj, if_pos hj]
      by_cases hji : j = i
      · subst hji
        rw [List.getElem?_set_self (by omega), List.getElem?_eq_getElem (by omega)]
      · rw [List.getElem?_set_ne (by omega)]
        have := congrArg (fun l => l[j]?) ht
        simp only [List.getElem?_take] at this
        rwa [if_pos (by omega), if_pos (by omega)] at this
    · rw [if_neg hj, if_neg hj]
theorem laws_toByteS_ev (x : List Int) (hx : x.length ≤ 140737488355328) : Ev (fun k => laws_toByteS.f k x) x := by
  unfold laws_toByteS.f
  refine ev_ifp (by omega) (ev_ifp (by omega) ?_)
  exact laws_toByteS_l0 x hx x.length _ 0 (by omega) (by simp) (by simp)

/-! impl_Check -/
theorem impl_Check_l0 (x : List Int) (hx : Bs x) (hl : x.length ≤ 140737488355328) : ∀ (rest pre : List Int) (a b : Int), x = pre ++ rest → 0 ≤ a → a < 65521 → 0 ≤ b → b < 65521 → Ev (fun k => impl_Check.l0 k a b x (x.length : Int) (pre.length : Int)) (chk rest a b) := by
  intro rest
  induction rest with
  | nil =>
    intro pre a b he ha ha' hb hb'
    have hn : x.length = pre.length := by rw [he]; simp
    refine Ev.step (fun _ => impl_Check.l0.eq_2 ..) ?_
    refine ev_ifn (by omega) (ev_some ?_)
    rw [w64 (n := b * 65536) (by omega) (by omega), w64 (by omega) (by omega)]; rfl
  | cons c rest ih =>
    intro pre a b he ha ha' hb hb'
    have hn : x.length = pre.length + (rest.length + 1) := by rw [he]; simp
    have hc := hx c (by rw [he]; simp)
    refine Ev.step (fun _ => impl_Check.l0.eq_2 ..) ?_
    refine ev_ifp (by omega) (ev_ifp (by omega) (ev_ifp (by omega) ?_))
    have hr : rd x (pre.length : Int) = c := by rw [he]; exact rd_mid _ _ _
    simp only [hr, w64 (n := c) (by omega) (by omega), w64 (n := a + c) (by omega) (by omega), tmod_pos (n := a + c) (m := 65521) (by omega)]
    rw [w64 (n := b + (a + c) % 65521) (by omega) (by omega), tmod_pos (n := b + (a + c) % 65521) (m := 65521) (by omega)]
    simp only [wnext pre.length (by omega)]
    have := ih (pre ++ [c]) ((a + c) % 65521) ((b + (a + c) % 65521) % 65521) (by rw [he]; simp) (by omega) (by omega) (by omega) (by omega)
    simpa [chk] using this
theorem impl_Check_ev (x : List Int) (hx : Bs x) (hl : x.length ≤ 140737488355328) : Ev (fun k => impl_Check.f k x) (chk x 1 0) :=
  impl_Check_l0 x hx hl x [] 1 0 rfl (by decide) (by decide) (by decide) (by decide)

/-! laws_eqByteS -/
theorem laws_eqByteS_l0 (x : List Int) (hx : x.length ≤ 140737488355328) : ∀ (d i : Nat), i + d = x.length → Ev (fun k => laws_eqByteS.l0 k x x (i : Int)) true := by
  intro d
  induction d with
  | zero =>
    intro i hi
    refine Ev.step (fun _ => laws_eqByteS.l0.eq_2 ..) ?_
    exact ev_ifn (by omega) (ev_some rfl)
  | succ d ih =>
    intro i hi
    refine Ev.step (fun _ => laws_eqByteS.l0.eq_2 ..) ?_
    refine ev_ifp (by omega) (ev_ifp (by omega) (ev_ifp (by omega) (ev_ifp rfl ?_)))
    simp only [wnext i (by omega)]
    exact ih (i + 1) (by omega)
theorem laws_eqByteS_ev (x : List Int) (hx : x.length ≤ 140737488355328) : Ev (fun k => laws_eqByteS.f k x x) true := by
  unfold laws_eqByteS.f
  exact ev_ifp rfl (laws_eqByteS_l0 x hx x.length 0 (by omega))

theorem FnExactCheck (l : List Int) (h : l.length ≤ maxLen ∧ ∀ x ∈ l, (Lit.int .u8 x).wf = true) : ∃ k, laws_FnExactCheck.f k l = some true := by
  obtain ⟨hs, hb⟩ := h
  unfold maxLen at hs
  have hB := bs_of hb
  refine Ev.rounds (r := true) ?_
  unfold laws_FnExactCheck.f
  refine ev_if (fun _ => ev_some rfl) (fun h => ?_)
  have t := laws_toByteS_ev l (by omega)
  refine Ev.bind t (Ev.bind (spec_Check_ev l hB (by omega)) (Ev.bind t (Ev.bind (impl_Check_ev l hB (by omega)) (ev_ifp rfl (Ev.bind t (Ev.bind (laws_eqByteS_ev l (by omega)) ?_))))))
  exact ev_ifp rfl (ev_some rfl)

end Go.Proofs.Yteconfmfgehoeaa.Pure
