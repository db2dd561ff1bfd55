/- The pure statement of FnExactConstOk: at every argument the law answers true. No condition. -/
import Derived.Test.YtcableidjknlfaaPFnExactConstOkx2
import Derived.Test.YtcableidjknlfaaLib1
import Derived.Test.YtcableidjknlfaaLib2
set_option linter.unusedVariables false
set_option linter.unusedSimpArgs false
namespace Go.Proofs.Ytcableidjknlfaa.Pure
open Go.RowKit Go.Proofs.Ytcableidjknlfaa.PFnExactConstOk Go.Proofs.YtcableidjknlfaaW.PrintWords Go.Proofs.YtcableidjknlfaaW.PrintLast Go.Proofs.YtcableidjknlfaaW.PrintMore Go.Proofs.YtcableidjknlfaaLib

/-! spec_l1In -/
theorem spec_l1In_eq (a b c : Int) : spec_l1In.f a b c = some (decide (b ≤ a ∧ a ≤ c)) := by
  unfold spec_l1In.f
  by_cases h : a ≥ b
  · rw [if_pos h]; congr 1; simp; omega
  · rw [if_neg h]; congr 1; simp; omega

/-! spec_l1Word -/
theorem spec_l1Word_eq (n : Int) : spec_l1Word.f n = some (decide (-2147483648 ≤ n ∧ n ≤ 2147483647)) := by
  unfold spec_l1Word.f
  rw [spec_l1In_eq]; rfl

/-! spec_l1Name -/
theorem spec_l1Name_ev (s : ByteArray) (hs : s.size ≤ 140737488355328) : Ev (fun k => spec_l1Name.f k s) (isName s) := by
  refine all_ev (F := fun k i => spec_l1Name.l0 k s i) (fun i hi hg r hr => ?_) (fun i hi hg => ?_) ?_
  · have hb := bt_range s (i : Int)
    simp only [letter, decide_eq_true_eq] at hg
    refine Ev.step (fun _ => spec_l1Name.l0.eq_2 ..) ?_
    rw [wnext i (by omega)]
    refine ev_ifp (by omega) (ev_ifp (by omega) ?_)
    by_cases h1 : bt s (i : Int) ≥ 97
    · refine ev_ifp h1 ?_
      by_cases h2 : bt s (i : Int) ≤ 122
      · exact ev_ifp h2 hr
      · exact ev_ifn h2 (ev_ifp (by omega) (ev_ifp (by omega) hr))
    · exact ev_ifn h1 (ev_ifp (by omega) (ev_ifp (by omega) hr))
  · have hb := bt_range s (i : Int)
    simp only [letter, decide_eq_false_iff_not] at hg
    refine Ev.step (fun _ => spec_l1Name.l0.eq_2 ..) ?_
    refine ev_ifp (by omega) (ev_ifp (by omega) ?_)
    by_cases h1 : bt s (i : Int) ≥ 97
    · exact ev_ifp h1 (ev_ifn (by omega) (ev_ifp (by omega) (ev_ifn (by omega) (ev_some rfl))))
    · refine ev_ifn h1 ?_
      by_cases h2 : bt s (i : Int) ≥ 65
      · exact ev_ifp h2 (ev_ifn (by omega) (ev_some rfl))
      · exact ev_ifn h2 (ev_some rfl)
  · refine Ev.step (fun _ => spec_l1Name.l0.eq_2 ..) ?_
    exact ev_ifn (by omega) (ev_call (spec_l1In_eq ..) (ev_some rfl))

/-! spec_ConstOk -/
theorem spec_ConstOk_ev (kind n : Int) (a b : ByteArray) (ha : a.size ≤ 140737488355328) (hb : b.size ≤ 140737488355328) : Ev (fun k => spec_ConstOk.f k kind n a b) (constOk kind n a b) := by
  have hj : ∀ c : Bool, Ev (fun k => spec_ConstOk.j0 k c kind n a b) (c && (decide (n = 0) && isName a && isName b)) := by
    intro c
    refine Ev.step (fun _ => spec_ConstOk.j0.eq_2 ..) ?_
    cases c with
    | false => exact ev_ifn (by simp) (ev_some rfl)
    | true =>
      refine ev_ifp rfl ?_
      by_cases h0 : n = 0
      · refine ev_ifp h0 (Ev.bind (spec_l1Name_ev a ha) ?_)
        cases hna : isName a with
        | false => exact ev_ifn (by simp) (ev_some (by simp))
        | true => exact ev_ifp rfl (Ev.bind (spec_l1Name_ev b hb) (ev_some (by simp [h0])))
      · exact ev_ifn h0 (ev_some (by simp [h0]))
  unfold spec_ConstOk.f constOk
  by_cases h1 : kind = 1
  · rw [if_pos h1]
    refine ev_ifp h1 (ev_call (spec_l1Word_eq n) ?_)
    by_cases hw : -2147483648 ≤ n ∧ n ≤ 2147483647
    · refine ev_ifp (by simpa using hw) ?_
      by_cases he : a.toList = []
      · exact ev_ifp he (ev_some (by simp [hw, he]))
      · exact ev_ifn he (ev_some (by simp [he]))
    · exact ev_ifn (by simpa using hw) (ev_some (by simp only [decide_eq_false hw, Bool.false_and]))
  · rw [if_neg h1]
    refine ev_ifn h1 ?_
    by_cases h2 : kind = 2
    · rw [if_pos h2]
      refine ev_ifp h2 ?_
      by_cases h0 : n = 0
      · refine ev_ifp h0 (Ev.bind (spec_l1Name_ev a ha) ?_)
        cases hna : isName a with
        | false => exact ev_ifn (by simp) (ev_some (by simp))
        | true => exact ev_ifp rfl (ev_some (by simp [h0]))
      · exact ev_ifn h0 (ev_some (by simp [h0]))
    · rw [if_neg h2]
      refine ev_ifn h2 ?_
      by_cases h3 : kind = 3
      · rw [if_pos (Or.inl h3)]
        refine ev_ifp h3 (ev_to (hj _) (by simp [h3]))
      · refine ev_ifn h3 (ev_to (hj _) ?_)
        by_cases h4 : kind = 4
        · rw [if_pos (Or.inr h4)]; simp [h4]
        · rw [if_neg (fun h => Or.elim h h3 h4)]; simp [h4]

/-! impl_within -/
theorem impl_within_eq (a b c : Int) : impl_within.f a b c = some (decide (b ≤ a ∧ a ≤ c)) := by
  unfold impl_within.f
  by_cases h : a ≥ b
  · rw [if_pos h]; congr 1; simp; omega
  · rw [if_neg h]; congr 1; simp; omega

/-! impl_isWord -/
theorem impl_isWord_eq (n : Int) : impl_isWord.f n = some (decide (-2147483648 ≤ n ∧ n ≤ 2147483647)) := by
  unfold impl_isWord.f
  rw [impl_within_eq]; rfl

/-! impl_isName -/
theorem impl_isName_ev (s : ByteArray) (hs : s.size ≤ 140737488355328) : Ev (fun k => impl_isName.f k s) (isName s) := by
  refine all_ev (F := fun k i => impl_isName.l0 k s i) (fun i hi hg r hr => ?_) (fun i hi hg => ?_) ?_
  · have hb := bt_range s (i : Int)
    simp only [letter, decide_eq_true_eq] at hg
    refine Ev.step (fun _ => impl_isName.l0.eq_2 ..) ?_
    rw [w64 (n := bt s (i : Int)) (by omega) (by omega), wnext i (by omega)]
    refine ev_ifp (by omega) (ev_ifp (by omega) (ev_call (impl_within_eq ..) (ev_if (fun _ => hr) (fun h => ev_call (impl_within_eq ..) (ev_ifp ?_ hr)))))
    simp only [decide_eq_true_eq] at h ⊢
    omega
  · have hb := bt_range s (i : Int)
    simp only [letter, decide_eq_false_iff_not] at hg
    refine Ev.step (fun _ => impl_isName.l0.eq_2 ..) ?_
    rw [w64 (n := bt s (i : Int)) (by omega) (by omega)]
    refine ev_ifp (by omega) (ev_ifp (by omega) (ev_call (impl_within_eq ..) (ev_ifn ?_ (ev_call (impl_within_eq ..) (ev_ifn ?_ (ev_some rfl))))))
    · simp only [decide_eq_true_eq]; omega
    · simp only [decide_eq_true_eq]; omega
  · refine Ev.step (fun _ => impl_isName.l0.eq_2 ..) ?_
    exact ev_ifn (by omega) (ev_call (impl_within_eq ..) (ev_some rfl))

/-! impl_ConstOk -/
theorem impl_ConstOk_ev (kind n : Int) (a b : ByteArray) (ha : a.size ≤ 140737488355328) (hb : b.size ≤ 140737488355328) : Ev (fun k => impl_ConstOk.f k kind n a b) (constOk kind n a b) := by
  have hj : ∀ c : Bool, Ev (fun k => impl_ConstOk.j0 k c kind n a b) (c && (decide (n = 0) && isName a && isName b)) := by
    intro c
    refine Ev.step (fun _ => impl_ConstOk.j0.eq_2 ..) ?_
    cases c with
    | false => exact ev_ifn (by simp) (ev_some rfl)
    | true =>
      refine ev_ifp rfl ?_
      by_cases h0 : n = 0
      · refine ev_ifp h0 (Ev.bind (impl_isName_ev a ha) ?_)
        cases hna : isName a with
        | false => exact ev_ifn (by simp) (ev_some (by simp))
        | true => exact ev_ifp rfl (Ev.bind (impl_isName_ev b hb) (ev_some (by simp [h0])))
      · exact ev_ifn h0 (ev_some (by simp [h0]))
  unfold impl_ConstOk.f constOk
  by_cases h1 : kind = 1
  · rw [if_pos h1]
    refine ev_ifp h1 (ev_call (impl_isWord_eq n) ?_)
    by_cases hw : -2147483648 ≤ n ∧ n ≤ 2147483647
    · refine ev_ifp (by simpa using hw) ?_
      by_cases he : a.toList = []
      · exact ev_ifp he (ev_some (by simp [hw, he]))
      · exact ev_ifn he (ev_some (by simp [he]))
    · exact ev_ifn (by simpa using hw) (ev_some (by simp only [decide_eq_false hw, Bool.false_and]))
  · rw [if_neg h1]
    refine ev_ifn h1 ?_
    by_cases h2 : kind = 2
    · rw [if_pos h2]
      refine ev_ifp h2 ?_
      by_cases h0 : n = 0
      · refine ev_ifp h0 (Ev.bind (impl_isName_ev a ha) ?_)
        cases hna : isName a with
        | false => exact ev_ifn (by simp) (ev_some (by simp))
        | true => exact ev_ifp rfl (ev_some (by simp [h0]))
      · exact ev_ifn h0 (ev_some (by simp [h0]))
    · rw [if_neg h2]
      refine ev_ifn h2 ?_
      by_cases h3 : kind = 3
      · rw [if_pos (Or.inl h3)]
        refine ev_ifp h3 (ev_to (hj _) (by simp [h3]))
      · refine ev_ifn h3 (ev_to (hj _) ?_)
        by_cases h4 : kind = 4
        · rw [if_pos (Or.inr h4)]; simp [h4]
        · rw [if_neg (fun h => Or.elim h h3 h4)]; simp [h4]

theorem FnExactConstOk (kind n : Int) (a b : ByteArray) (_ : (Lit.int .i64 kind).wf = true) (_ : (Lit.int .i64 n).wf = true) (ha : a.size ≤ maxLen) (hb : b.size ≤ maxLen) : ∃ k, laws_FnExactConstOk.f k kind n a b = some true := by
  unfold maxLen at ha hb
  refine Ev.rounds (r := true) ?_
  unfold laws_FnExactConstOk.f
  obtain ⟨z, hz, hz2⟩ : ∃ z, laws_szConst.f kind n a b 1048576 = some z ∧ (0 ≤ z → a.size ≤ 1048576 ∧ b.size ≤ 1048576) := by
    unfold laws_szConst.f
    rw [w64 (n := (1048576 : Int) - (a.size : Int)) (by omega) (by omega)]
    by_cases h : (1048576 : Int) - (a.size : Int) < 0
    · rw [if_pos h]; exact ⟨_, rfl, fun h => absurd h (by decide)⟩
    · rw [if_neg h, w64 (n := (1048576 : Int) - (a.size : Int) - (b.size : Int)) (by omega) (by omega)]
      by_cases h2 : (1048576 : Int) - (a.size : Int) - (b.size : Int) < 0
      · rw [if_pos h2]; exact ⟨_, rfl, fun h => absurd h (by decide)⟩
      · rw [if_neg h2]; exact ⟨_, rfl, fun h => by omega⟩
  refine ev_call hz (ev_if (fun _ => ev_some rfl) (fun h => ?_))
  obtain ⟨ha2, hb2⟩ := hz2 (by omega)
  refine ev_call rfl (Ev.bind (spec_ConstOk_ev kind n a b (by omega) (by omega)) (ev_call rfl (Ev.bind (impl_ConstOk_ev kind n a b (by omega) (by omega)) ?_)))
  exact ev_ifn (by simp) (ev_some rfl)

end Go.Proofs.Ytcableidjknlfaa.Pure
