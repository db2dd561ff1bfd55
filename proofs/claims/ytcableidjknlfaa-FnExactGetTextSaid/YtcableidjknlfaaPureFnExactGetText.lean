/- The pure statement of FnExactGetText: at every argument the law answers true. No condition. -/
import Derived.Test.YtcableidjknlfaaMFnExactGetTextx2
import Derived.Test.YtcableidjknlfaaLib1
import Derived.Test.YtcableidjknlfaaLib2
set_option linter.unusedVariables false
set_option linter.unusedSimpArgs false
namespace Go.Proofs.Ytcableidjknlfaa.Pure
open Go.RowKit Go.Proofs.Ytcableidjknlfaa.MFnExactGetText Go.Proofs.YtcableidjknlfaaW.PrintWords Go.Proofs.YtcableidjknlfaaW.PrintLast Go.Proofs.YtcableidjknlfaaW.PrintMore Go.Proofs.YtcableidjknlfaaLib

/-! laws_eqByteS -/
theorem laws_eqByteS_l0 (x : List Int) (hx : x.length ≤ 140737488355328) : ∀ (d i : Nat), i + d = x.length → Ev (fun k => laws_eqByteS.l0 k x x (i : Int)) true := by
  intro d
  induction d with
  | zero =>
    intro i hi
    refine Ev.step (fun _ => laws_eqByteS.l0.eq_2 ..) ?_
    exact ev_ifn (by omega) (ev_some rfl)
  | succ d ih =>
    intro i hi
    refine Ev.step (fun _ => laws_eqByteS.l0.eq_2 ..) ?_
    refine ev_ifp (by omega) (ev_ifp (by omega) (ev_ifp (by omega) (ev_ifp rfl ?_)))
    simp only [wnext i (by omega)]
    exact ih (i + 1) (by omega)
theorem laws_eqByteS_ev (x : List Int) (hx : x.length ≤ 140737488355328) : Ev (fun k => laws_eqByteS.f k x x) true := by
  unfold laws_eqByteS.f
  exact ev_ifp rfl (laws_eqByteS_l0 x hx x.length 0 (by omega))

/-! laws_toByteS -/
theorem laws_toByteS_l0 (x : List Int) (hx : x.length ≤ 140737488355328) : ∀ (d : Nat) (acc : List Int) (i : Nat), i + d = x.length → acc.length = x.length → acc.take i = x.take i → Ev (fun k => laws_toByteS.l0 k x acc (i : Int)) x := by
  intro d
  induction d with
  | zero =>
    intro acc i hi hl ht
    refine Ev.step (fun _ => laws_toByteS.l0.eq_2 ..) ?_
    refine ev_ifn (by omega) (ev_some ?_)
    have h1 : acc.take i = acc := List.take_of_length_le (by omega)
    have h2 : x.take i = x := List.take_of_length_le (by omega)
    rw [h1, h2] at ht
    exact ht
  | succ d ih =>
    intro acc i hi hl ht
    refine Ev.step (fun _ => laws_toByteS.l0.eq_2 ..) ?_
    refine ev_ifp (by omega) (ev_ifp (by omega) (ev_ifp (by omega) ?_))
    simp only [wnext i (by omega)]
    refine ih _ (i + 1) (by omega) (by rw [List.length_set]; exact hl) ?_
    rw [rd_nat x i (by omega), Int.toNat_natCast]
    apply List.ext_getElem?
    intro j
    rw [List.getElem?_take, List.getElem?_take]
    by_cases hj : j < i + 1
    · rw [if_pos hj, if_pos hj]
      by_cases hji : j = i
      · subst hji
        rw [List.getElem?_set_self (by omega), List.getElem?_eq_getElem (by omega)]
      · rw [List.getElem?_set_ne (by omega)]
        have := congrArg (fun l => l[j]?) ht
        simp only [List.getElem?_take] at this
        rwa [if_pos (by omega), if_pos (by omega)] at this
    · rw [if_neg hj, if_neg hj]
theorem laws_toByteS_ev (x : List Int) (hx : x.length ≤ 140737488355328) : Ev (fun k => laws_toByteS.f k x) x := by
  unfold laws_toByteS.f
  refine ev_ifp (by omega) (ev_ifp (by omega) ?_)
  exact laws_toByteS_l0 x hx x.length _ 0 (by omega) (by simp) (by simp)

/-! spec_GetNum -/
theorem spec_GetNum_l0 (l : List Int) (hl : Bs l) (hs : l.length ≤ 140737488355328) (a : Int) : ∀ (f i : Nat) (n : Int), f + i = 4 → 0 ≤ n → n < 128 ^ i → Ev (fun k => spec_GetNum.l0 k l a n (i : Int)) (gnum l a f i n)
  | 0, i, n, hf, h0, h1 => by
    refine Ev.step (fun _ => spec_GetNum.l0.eq_2 ..) ?_
    exact ev_ifn (by omega) (ev_some rfl)
  | f + 1, i, n, hf, h0, h1 => by
    have hp := pow7 i (by omega)
    have hb := rd_bs hl (a + i)
    have hx : 0 ≤ rd l (a + i) % 128 * 128 ^ i := Int.mul_nonneg (by omega) (by omega)
    have hx2 : n + rd l (a + i) % 128 * 128 ^ i < 128 ^ (i + 1) := by
      rw [Int.pow_succ]
      have : rd l (a + i) % 128 * 128 ^ i ≤ 127 * 128 ^ i := Int.mul_le_mul_of_nonneg_right (by omega) (by omega)
      omega
    have hp1 := pow7 (i + 1) (by omega)
    refine Ev.step (fun _ => spec_GetNum.l0.eq_2 ..) ?_
    refine ev_ifp (by omega) ?_
    by_cases ha : a < 0
    · refine ev_ifp ha ?_
      refine Ev.step (fun _ => spec_GetNum.j1.eq_2 ..) ?_
      exact ev_ifp rfl (ev_some (gnum_out (by omega)).symm)
    · refine ev_ifn ha ?_
      refine Ev.step (fun _ => spec_GetNum.j1.eq_2 ..) ?_
      rw [w64 (n := (l.length : Int) - i) (by omega) (by omega)]
      by_cases hb2 : a ≥ (l.length : Int) - i
      · exact ev_ifp (by simpa using hb2) (ev_some (gnum_out (by omega)).symm)
      · have hin : 0 ≤ a ∧ a + (i : Int) < (l.length : Int) := by omega
        refine ev_ifn (by simpa using hb2) ?_
        rw [w64 (n := a + i) (by omega) (by omega), w64 (n := rd l (a + i)) (by omega) (by omega), tmod_pos (n := rd l (a + i)) hb.1, shl7 i (by omega) _ (by omega) (by omega), or7 i (by omega) n _ h0 h1 (by omega) (by omega)]
        refine ev_ifp (by omega) (ev_ifp (by omega) (ev_ifp (by rw [w64 (by omega) (by omega)]; omega) ?_))
        rw [w64 (n := a + i + 1) (by omega) (by omega), wnext i (by omega)]
        by_cases hc : rd l (a + i) < 128
        · refine ev_ifp hc ?_
          have hm : rd l (a + i) % 128 = rd l (a + i) := by omega
          rw [hm]
          by_cases hi : (i : Int) > 0
          · refine ev_ifp hi ?_
            by_cases hz : rd l (a + i) = 0
            · exact ev_ifp hz (ev_some (gnum_bad hin hc (Or.inl (And.intro (by omega) hz))).symm)
            · refine ev_ifn hz ?_
              by_cases hg : n + rd l (a + i) * 128 ^ i > 16777215
              · exact ev_ifp hg (ev_some (gnum_bad hin hc (Or.inr hg)).symm)
              · exact ev_ifn hg (ev_some (gnum_end hin hc (fun h => hz h.2) hg).symm)
          · refine ev_ifn hi ?_
            by_cases hg : n + rd l (a + i) * 128 ^ i > 16777215
            · exact ev_ifp hg (ev_some (gnum_bad hin hc (Or.inr hg)).symm)
            · exact ev_ifn hg (ev_some (gnum_end hin hc (fun h => hi (by omega)) hg).symm)
        · refine ev_ifn hc ?_
          rw [gnum_more hin hc]
          exact spec_GetNum_l0 l hl hs a f (i + 1) _ (by omega) (by omega) hx2
theorem spec_GetNum_ev (l : List Int) (hl : Bs l) (hs : l.length ≤ 140737488355328) (a : Int) : Ev (fun k => spec_GetNum.f k l a) (getNum l a) :=
  spec_GetNum_l0 l hl hs a 4 0 0 rfl (by decide) (by decide)

/-! spec_GetText -/
theorem spec_GetText_ev (l : List Int) (hl : Bs l) (hs : l.length ≤ 140737488355328) (a : Int) : Ev (fun k => spec_GetText.f k l a) (getText l a) := by
  unfold spec_GetText.f
  refine Ev.bind (spec_GetNum_ev l hl hs a) ?_
  by_cases hk : (getNum l a).2.2 = true
  · have hb := getNum_ok hl hk
    refine ev_ifp hk ?_
    rw [w64 (n := (l.length : Int) - (getNum l a).2.1) (by omega) (by omega), w64 (n := (getNum l a).2.1 + (getNum l a).1) (by omega) (by omega)]
    by_cases h1 : (getNum l a).1 > 200
    · exact ev_ifp h1 (ev_some (by unfold getText; rw [if_neg (fun h => absurd h.2.1 (by omega))]))
    · refine ev_ifn h1 ?_
      by_cases h2 : (getNum l a).1 > (l.length : Int) - (getNum l a).2.1
      · exact ev_ifp h2 (ev_some (by unfold getText; rw [if_neg (fun h => absurd h.2.2 (by omega))]))
      · exact ev_ifn h2 (ev_ifp (by omega) (ev_ifp (by omega) (ev_ifp (by omega) (ev_some (by unfold getText; rw [if_pos ⟨hk, by omega, by omega⟩])))))
  · exact ev_ifn hk (ev_some (by unfold getText; rw [if_neg (fun h => hk h.1)]))

/-! impl_GetNum -/
theorem impl_GetNum_l0 (l : List Int) (hl : Bs l) (hs : l.length ≤ 140737488355328) (a : Int) (ha : 0 ≤ a) (ha1 : a < l.length) : ∀ (f i : Nat) (n : Int), f + i = 4 → 0 ≤ n → n < 128 ^ i → Ev (fun k => impl_GetNum.l0 k l a n (i : Int)) (gnum l a f i n)
  | 0, i, n, hf, h0, h1 => by
    refine Ev.step (fun _ => impl_GetNum.l0.eq_2 ..) ?_
    refine ev_ifn (by omega) ?_
    refine Ev.step (fun _ => impl_GetNum.j2.eq_2 ..) ?_
    exact ev_ifn (by simp) (ev_some rfl)
  | f + 1, i, n, hf, h0, h1 => by
    have hp := pow7 i (by omega)
    have hb := rd_bs hl (a + i)
    have hx : 0 ≤ rd l (a + i) % 128 * 128 ^ i := Int.mul_nonneg (by omega) (by omega)
    have hx2 : n + rd l (a + i) % 128 * 128 ^ i < 128 ^ (i + 1) := by
      rw [Int.pow_succ]
      have : rd l (a + i) % 128 * 128 ^ i ≤ 127 * 128 ^ i := Int.mul_le_mul_of_nonneg_right (by omega) (by omega)
      omega
    have hp1 := pow7 (i + 1) (by omega)
    refine Ev.step (fun _ => impl_GetNum.l0.eq_2 ..) ?_
    refine ev_ifp (by omega) ?_
    refine Ev.step (fun _ => impl_GetNum.j2.eq_2 ..) ?_
    rw [w64 (n := a + i) (by omega) (by omega)]
    by_cases hb2 : a + i < (l.length : Int)
    · have hin : 0 ≤ a ∧ a + (i : Int) < (l.length : Int) := ⟨ha, hb2⟩
      refine ev_ifp (by simpa using hb2) ?_
      rw [w64 (n := rd l (a + i)) (by omega) (by omega), tmod_pos (n := rd l (a + i)) hb.1, shl7 i (by omega) _ (by omega) (by omega), w64 (n := n + rd l (a + i) % 128 * 128 ^ i) (by omega) (by omega)]
      refine ev_ifp (by omega) (ev_ifp hb2 (ev_ifp (by rw [w64 (by omega) (by omega)]; omega) ?_))
      rw [w64 (n := a + i + 1) (by omega) (by omega), wnext i (by omega)]
      by_cases hc : rd l (a + i) < 128
      · refine ev_ifn (by omega) ?_
        have hm : rd l (a + i) % 128 = rd l (a + i) := by omega
        rw [hm]
        by_cases hi : (i : Int) > 0
        · refine ev_ifp hi ?_
          by_cases hz : rd l (a + i) = 0
          · exact ev_ifp hz (ev_some (gnum_bad hin hc (Or.inl (And.intro (by omega) hz))).symm)
          · refine ev_ifn hz ?_
            by_cases hg : n + rd l (a + i) * 128 ^ i > 16777215
            · exact ev_ifp hg (ev_some (gnum_bad hin hc (Or.inr hg)).symm)
            · exact ev_ifn hg (ev_some (gnum_end hin hc (fun h => hz h.2) hg).symm)
        · refine ev_ifn hi ?_
          by_cases hg : n + rd l (a + i) * 128 ^ i > 16777215
          · exact ev_ifp hg (ev_some (gnum_bad hin hc (Or.inr hg)).symm)
          · exact ev_ifn hg (ev_some (gnum_end hin hc (fun h => hi (by omega)) hg).symm)
      · refine ev_ifp (by omega) ?_
        rw [gnum_more hin hc]
        exact impl_GetNum_l0 l hl hs a ha ha1 f (i + 1) _ (by omega) (by omega) hx2
    · exact ev_ifn (by simpa using hb2) (ev_some (gnum_out (fun h => hb2 h.2)).symm)
theorem impl_GetNum_ev (l : List Int) (hl : Bs l) (hs : l.length ≤ 140737488355328) (a : Int) : Ev (fun k => impl_GetNum.f k l a) (getNum l a) := by
  unfold impl_GetNum.f
  by_cases ha : a < 0
  · refine ev_ifp ha ?_
    refine Ev.step (fun _ => impl_GetNum.j0.eq_2 ..) ?_
    refine ev_ifp rfl (ev_some ?_)
    exact (gnum_out (by omega)).symm
  · refine ev_ifn ha ?_
    refine Ev.step (fun _ => impl_GetNum.j0.eq_2 ..) ?_
    by_cases hb : a ≥ (l.length : Int)
    · refine ev_ifp (by simpa using hb) (ev_some ?_)
      exact (gnum_out (by omega)).symm
    · refine ev_ifn (by simpa using hb) ?_
      exact impl_GetNum_l0 l hl hs a (by omega) (by omega) 4 0 0 rfl (by decide) (by decide)

/-! impl_GetText -/
theorem impl_GetText_ev (l : List Int) (hl : Bs l) (hs : l.length ≤ 140737488355328) (a : Int) : Ev (fun k => impl_GetText.f k l a) (getText l a) := by
  unfold impl_GetText.f
  refine Ev.bind (impl_GetNum_ev l hl hs a) ?_
  by_cases hk : (getNum l a).2.2 = true
  · have hb := getNum_ok hl hk
    refine ev_ifp hk ?_
    rw [w64 (n := (l.length : Int) - (getNum l a).2.1) (by omega) (by omega), w64 (n := (getNum l a).2.1 + (getNum l a).1) (by omega) (by omega)]
    by_cases h1 : (getNum l a).1 > 200
    · exact ev_ifp h1 (ev_some (by unfold getText; rw [if_neg (fun h => absurd h.2.1 (by omega))]))
    · refine ev_ifn h1 ?_
      by_cases h2 : (getNum l a).1 > (l.length : Int) - (getNum l a).2.1
      · exact ev_ifp h2 (ev_some (by unfold getText; rw [if_neg (fun h => absurd h.2.2 (by omega))]))
      · exact ev_ifn h2 (ev_ifp (by omega) (ev_ifp (by omega) (ev_ifp (by omega) (ev_some (by unfold getText; rw [if_pos ⟨hk, by omega, by omega⟩])))))
  · exact ev_ifn hk (ev_some (by unfold getText; rw [if_neg (fun h => hk h.1)]))

theorem FnExactGetText (l : List Int) (i : Int) (h : l.length ≤ maxLen ∧ ∀ x ∈ l, (Lit.int .u8 x).wf = true) (hi : (Lit.int .i64 i).wf = true) : ∃ k, laws_FnExactGetText.f k l i = some true := by
  obtain ⟨hs, hb⟩ := h
  unfold maxLen at hs
  have hB := bs_of hb
  refine Ev.rounds (r := true) ?_
  unfold laws_FnExactGetText.f
  refine ev_if (fun _ => ev_some rfl) (fun h => ?_)
  repeat' first
    | exact ev_some rfl
    | refine Ev.bind (laws_toByteS_ev _ (by omega)) ?_
    | refine Ev.bind (laws_eqByteS_ev _ (by omega)) ?_
    | refine Ev.bind (spec_GetText_ev _ hB (by omega) _) ?_
    | refine Ev.bind (impl_GetText_ev _ hB (by omega) _) ?_
    | refine ev_ifp (by with_reducible rfl) ?_
    | refine ev_ifn (by simp only [bne_self_eq_false, Bool.false_eq_true, not_false_eq_true]) ?_
    | refine ev_ifp (by first | decide | omega) ?_
    | refine ev_ifn (by first | decide | omega) ?_
    | refine Ev.step (fun _ => laws_FnExactGetText.j0.eq_2 ..) ?_

end Go.Proofs.Ytcableidjknlfaa.Pure
