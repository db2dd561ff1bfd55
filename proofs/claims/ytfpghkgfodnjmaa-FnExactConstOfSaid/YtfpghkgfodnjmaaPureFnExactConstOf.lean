/- The pure statement of FnExactConstOf: at every argument the law answers true. No condition. -/
import Derived.Test.YtfpghkgfodnjmaaMFnExactConstOfx7
import Derived.Test.YtfpghkgfodnjmaaLib1
import Derived.Test.YtfpghkgfodnjmaaLib2
set_option linter.unusedVariables false
set_option linter.unusedSimpArgs false
namespace Go.Proofs.Ytfpghkgfodnjmaa.Pure
open Go.RowKit Go.Proofs.Ytfpghkgfodnjmaa.MFnExactConstOf Go.Proofs.YtfpghkgfodnjmaaW.PrintWords Go.Proofs.YtfpghkgfodnjmaaW.PrintLast Go.Proofs.YtfpghkgfodnjmaaW.PrintMore Go.Proofs.YtfpghkgfodnjmaaLib

/-! laws_eqByteS -/
theorem laws_eqByteS_l0 (x : List Int) (hx : x.length ≤ 140737488355328) : ∀ (d i : Nat), i + d = x.length → Ev (fun k => laws_eqByteS.l0 k x x (i : Int)) true := by
  intro d
  induction d with
  | zero =>
    intro i hi
    refine Ev.step (fun _ => laws_eqByteS.l0.eq_2 ..) ?_
    exact ev_ifn (by omega) (ev_some rfl)
  | succ d ih =>
    intro i hi
    refine Ev.step (fun _ => laws_eqByteS.l0.eq_2 ..) ?_
    refine ev_ifp (by omega) (ev_ifp (by omega) (ev_ifp (by omega) (ev_ifp rfl ?_)))
    simp only [wnext i (by omega)]
    exact ih (i + 1) (by omega)
theorem laws_eqByteS_ev (x : List Int) (hx : x.length ≤ 140737488355328) : Ev (fun k => laws_eqByteS.f k x x) true := by
  unfold laws_eqByteS.f
  exact ev_ifp rfl (laws_eqByteS_l0 x hx x.length 0 (by omega))

/-! spec_l1In -/
theorem spec_l1In_eq (a b c : Int) : spec_l1In.f a b c = some (decide (b ≤ a ∧ a ≤ c)) := by
  unfold spec_l1In.f
  by_cases h : a ≥ b
  · rw [if_pos h]; congr 1; simp; omega
  · rw [if_neg h]; congr 1; simp; omega

/-! spec_l1Word -/
theorem spec_l1Word_eq (n : Int) : spec_l1Word.f n = some (decide (-2147483648 ≤ n ∧ n ≤ 2147483647)) := by
  unfold spec_l1Word.f
  rw [spec_l1In_eq]; rfl

/-! spec_l1Name -/
theorem spec_l1Name_ev (s : ByteArray) (hs : s.size ≤ 140737488355328) : Ev (fun k => spec_l1Name.f k s) (isName s) := by
  refine all_ev (F := fun k i => spec_l1Name.l0 k s i) (fun i hi hg r hr => ?_) (fun i hi hg => ?_) ?_
  · have hb := bt_range s (i : Int)
    simp only [letter, decide_eq_true_eq] at hg
    refine Ev.step (fun _ => spec_l1Name.l0.eq_2 ..) ?_
    rw [wnext i (by omega)]
    refine ev_ifp (by omega) (ev_ifp (by omega) ?_)
    by_cases h1 : bt s (i : Int) ≥ 97
    · refine ev_ifp h1 ?_
      by_cases h2 : bt s (i : Int) ≤ 122
      · exact ev_ifp h2 hr
      · exact ev_ifn h2 (ev_ifp (by omega) (ev_ifp (by omega) hr))
    · exact ev_ifn h1 (ev_ifp (by omega) (ev_ifp (by omega) hr))
  · have hb := bt_range s (i : Int)
    simp only [letter, decide_eq_false_iff_not] at hg
    refine Ev.step (fun _ => spec_l1Name.l0.eq_2 ..) ?_
    refine ev_ifp (by omega) (ev_ifp (by omega) ?_)
    by_cases h1 : bt s (i : Int) ≥ 97
    · exact ev_ifp h1 (ev_ifn (by omega) (ev_ifp (by omega) (ev_ifn (by omega) (ev_some rfl))))
    · refine ev_ifn h1 ?_
      by_cases h2 : bt s (i : Int) ≥ 65
      · exact ev_ifp h2 (ev_ifn (by omega) (ev_some rfl))
      · exact ev_ifn h2 (ev_some rfl)
  · refine Ev.step (fun _ => spec_l1Name.l0.eq_2 ..) ?_
    exact ev_ifn (by omega) (ev_call (spec_l1In_eq ..) (ev_some rfl))

/-! spec_ConstOk -/
theorem spec_ConstOk_ev (kind n : Int) (a b : ByteArray) (ha : a.size ≤ 140737488355328) (hb : b.size ≤ 140737488355328) : Ev (fun k => spec_ConstOk.f k kind n a b) (constOk kind n a b) := by
  have hj : ∀ c : Bool, Ev (fun k => spec_ConstOk.j0 k c kind n a b) (c && (decide (n = 0) && isName a && isName b)) := by
    intro c
    refine Ev.step (fun _ => spec_ConstOk.j0.eq_2 ..) ?_
    cases c with
    | false => exact ev_ifn (by simp) (ev_some rfl)
    | true =>
      refine ev_ifp rfl ?_
      by_cases h0 : n = 0
      · refine ev_ifp h0 (Ev.bind (spec_l1Name_ev a ha) ?_)
        cases hna : isName a with
        | false => exact ev_ifn (by simp) (ev_some (by simp))
        | true => exact ev_ifp rfl (Ev.bind (spec_l1Name_ev b hb) (ev_some (by simp [h0])))
      · exact ev_ifn h0 (ev_some (by simp [h0]))
  unfold spec_ConstOk.f constOk
  by_cases h1 : kind = 1
  · rw [if_pos h1]
    refine ev_ifp h1 (ev_call (spec_l1Word_eq n) ?_)
    by_cases hw : -2147483648 ≤ n ∧ n ≤ 2147483647
    · refine ev_ifp (by simpa using hw) ?_
      by_cases he : a.toList = []
      · exact ev_ifp he (ev_some (by simp [hw, he]))
      · exact ev_ifn he (ev_some (by simp [he]))
    · exact ev_ifn (by simpa using hw) (ev_some (by simp only [decide_eq_false hw, Bool.false_and]))
  · rw [if_neg h1]
    refine ev_ifn h1 ?_
    by_cases h2 : kind = 2
    · rw [if_pos h2]
      refine ev_ifp h2 ?_
      by_cases h0 : n = 0
      · refine ev_ifp h0 (Ev.bind (spec_l1Name_ev a ha) ?_)
        cases hna : isName a with
        | false => exact ev_ifn (by simp) (ev_some (by simp))
        | true => exact ev_ifp rfl (ev_some (by simp [h0]))
      · exact ev_ifn h0 (ev_some (by simp [h0]))
    · rw [if_neg h2]
      refine ev_ifn h2 ?_
      by_cases h3 : kind = 3
      · rw [if_pos (Or.inl h3)]
        refine ev_ifp h3 (ev_to (hj _) (by simp [h3]))
      · refine ev_ifn h3 (ev_to (hj _) ?_)
        by_cases h4 : kind = 4
        · rw [if_pos (Or.inr h4)]; simp [h4]
        · rw [if_neg (fun h => Or.elim h h3 h4)]; simp [h4]

/-! spec_GetNum -/
theorem spec_GetNum_l0 (l : List Int) (hl : Bs l) (hs : l.length ≤ 140737488355328) (a : Int) : ∀ (f i : Nat) (n : Int), f + i = 4 → 0 ≤ n → n < 128 ^ i → Ev (fun k => spec_GetNum.l0 k l a n (i : Int)) (gnum l a f i n)
  | 0, i, n, hf, h0, h1 => by
    refine Ev.step (fun _ => spec_GetNum.l0.eq_2 ..) ?_
    exact ev_ifn (by omega) (ev_some rfl)
  | f + 1, i, n, hf, h0, h1 => by
    have hp := pow7 i (by omega)
    have hb := rd_bs hl (a + i)
    have hx : 0 ≤ rd l (a + i) % 128 * 128 ^ i := Int.mul_nonneg (by omega) (by omega)
    have hx2 : n + rd l (a + i) % 128 * 128 ^ i < 128 ^ (i + 1) := by
      rw [Int.pow_succ]
      have : rd l (a + i) % 128 * 128 ^ i ≤ 127 * 128 ^ i := Int.mul_le_mul_of_nonneg_right (by omega) (by omega)
      omega
    have hp1 := pow7 (i + 1) (by omega)
    refine Ev.step (fun _ => spec_GetNum.l0.eq_2 ..) ?_
    refine ev_ifp (by omega) ?_
    by_cases ha : a < 0
    · refine ev_ifp ha ?_
      refine Ev.step (fun _ => spec_GetNum.j1.eq_2 ..) ?_
      exact ev_ifp rfl (ev_some (gnum_out (by omega)).symm)
    · refine ev_ifn ha ?_
      refine Ev.step (fun _ => spec_GetNum.j1.eq_2 ..) ?_
      rw [w64 (n := (l.length : Int) - i) (by omega) (by omega)]
      by_cases hb2 : a ≥ (l.length : Int) - i
      · exact ev_ifp (by simpa using hb2) (ev_some (gnum_out (by omega)).symm)
      · have hin : 0 ≤ a ∧ a + (i : Int) < (l.length : Int) := by omega
        refine ev_ifn (by simpa using hb2) ?_
        rw [w64 (n := a + i) (by omega) (by omega), w64 (n := rd l (a + i)) (by omega) (by omega), tmod_pos (n := rd l (a + i)) hb.1, shl7 i (by omega) _ (by omega) (by omega), or7 i (by omega) n _ h0 h1 (by omega) (by omega)]
        refine ev_ifp (by omega) (ev_ifp (by omega) (ev_ifp (by rw [w64 (by omega) (by omega)]; omega) ?_))
        rw [w64 (n := a + i + 1) (by omega) (by omega), wnext i (by omega)]
        by_cases hc : rd l (a + i) < 128
        · refine ev_ifp hc ?_
          have hm : rd l (a + i) % 128 = rd l (a + i) := by omega
          rw [hm]
          by_cases hi : (i : Int) > 0
          · refine ev_ifp hi ?_
            by_cases hz : rd l (a + i) = 0
            · exact ev_ifp hz (ev_some (gnum_bad hin hc (Or.inl (And.intro (by omega) hz))).symm)
            · refine ev_ifn hz ?_
              by_cases hg : n + rd l (a + i) * 128 ^ i > 16777215
              · exact ev_ifp hg (ev_some (gnum_bad hin hc (Or.inr hg)).symm)
              · exact ev_ifn hg (ev_some (gnum_end hin hc (fun h => hz h.2) hg).symm)
          · refine ev_ifn hi ?_
            by_cases hg : n + rd l (a + i) * 128 ^ i > 16777215
            · exact ev_ifp hg (ev_some (gnum_bad hin hc (Or.inr hg)).symm)
            · exact ev_ifn hg (ev_some (gnum_end hin hc (fun h => hi (by omega)) hg).symm)
        · refine ev_ifn hc ?_
          rw [gnum_more hin hc]
          exact spec_GetNum_l0 l hl hs a f (i + 1) _ (by omega) (by omega) hx2
theorem spec_GetNum_ev (l : List Int) (hl : Bs l) (hs : l.length ≤ 140737488355328) (a : Int) : Ev (fun k => spec_GetNum.f k l a) (getNum l a) :=
  spec_GetNum_l0 l hl hs a 4 0 0 rfl (by decide) (by decide)

/-! spec_l3Num -/
theorem spec_l3Num_ev (l : List Int) (hl : Bs l) (hs : l.length ≤ 140737488355328) (a : Int) (ok : Bool) : Ev (fun k => spec_l3Num.f k l a ok) (rNum l a ok) := by
  unfold spec_l3Num.f rNum
  refine Ev.bind (spec_GetNum_ev l hl hs a) ?_
  cases h : (getNum l a).2.2 with
  | false => exact ev_ifn (by simp) (ev_some (by simp))
  | true => cases ok with
    | false => exact ev_ifp rfl (ev_ifn (by simp) (ev_some (by simp)))
    | true => exact ev_ifp rfl (ev_ifp rfl (ev_some (by simp)))

/-! spec_Round -/
theorem spec_Round_eq (n : Int) : spec_Round.f n = some (round n) := by
  unfold spec_Round.f round
  have h := bits_and_mask n 32 (by decide)
  simp only [Int.reducePow, Int.reduceSub] at h
  rw [h]
  by_cases hc : n % 4294967296 > 2147483647
  · rw [if_pos hc, w64 (by omega) (by omega)]; congr 1; omega
  · rw [if_neg hc]; congr 1; omega

/-! spec_GetWord -/
theorem spec_GetWord_eq (l : List Int) (i : Int) (hl : Bs l) (hs : l.length ≤ 140737488355328) : spec_GetWord.f l i = some (getWord l i) := by
  unfold spec_GetWord.f getWord
  by_cases h0 : i < 0
  · rw [if_pos h0, if_neg (by omega)]
  · rw [if_neg h0, w64 (n := (l.length : Int) - 4) (by omega) (by omega)]
    by_cases h1 : i > (l.length : Int) - 4
    · rw [if_pos h1, if_neg (by omega)]
    · rw [if_neg h1, if_pos (by omega), w64 (n := i + 1) (by omega) (by omega), w64 (n := i + 2) (by omega) (by omega), w64 (n := i + 3) (by omega) (by omega), w64 (n := i + 4) (by omega) (by omega)]
      rw [if_pos (by omega), if_pos (by omega), if_pos (by omega), if_pos (by omega), if_pos (by omega), if_pos (by omega), if_pos (by omega), if_pos (by omega)]
      rw [le4 _ _ _ _ (rd_bs hl _) (rd_bs hl _) (rd_bs hl _) (rd_bs hl _), spec_Round_eq]
      rfl

/-! spec_l3Word -/
theorem spec_l3Word_eq (l : List Int) (hl : Bs l) (hs : l.length ≤ 140737488355328) (a : Int) (ok : Bool) : spec_l3Word.f l a ok = some (rWord l a ok) := by
  unfold spec_l3Word.f rWord
  rw [spec_GetWord_eq l a hl hs, Option.bind_some]
  cases h : (getWord l a).2.2 <;> cases ok <;> simp

/-! spec_GetText -/
theorem spec_GetText_ev (l : List Int) (hl : Bs l) (hs : l.length ≤ 140737488355328) (a : Int) : Ev (fun k => spec_GetText.f k l a) (getText l a) := by
  unfold spec_GetText.f
  refine Ev.bind (spec_GetNum_ev l hl hs a) ?_
  by_cases hk : (getNum l a).2.2 = true
  · have hb := getNum_ok hl hk
    refine ev_ifp hk ?_
    rw [w64 (n := (l.length : Int) - (getNum l a).2.1) (by omega) (by omega), w64 (n := (getNum l a).2.1 + (getNum l a).1) (by omega) (by omega)]
    by_cases h1 : (getNum l a).1 > 200
    · exact ev_ifp h1 (ev_some (by unfold getText; rw [if_neg (fun h => absurd h.2.1 (by omega))]))
    · refine ev_ifn h1 ?_
      by_cases h2 : (getNum l a).1 > (l.length : Int) - (getNum l a).2.1
      · exact ev_ifp h2 (ev_some (by unfold getText; rw [if_neg (fun h => absurd h.2.2 (by omega))]))
      · exact ev_ifn h2 (ev_ifp (by omega) (ev_ifp (by omega) (ev_ifp (by omega) (ev_some (by unfold getText; rw [if_pos ⟨hk, by omega, by omega⟩])))))
  · exact ev_ifn hk (ev_some (by unfold getText; rw [if_neg (fun h => hk h.1)]))

/-! spec_l6Text -/
theorem spec_l6Text_ev (l : List Int) (hl : Bs l) (hs : l.length ≤ 140737488355328) (a : Int) (ok : Bool) : Ev (fun k => spec_l6Text.f k l a ok) (rText l a ok) := by
  unfold spec_l6Text.f rText
  refine Ev.bind (spec_GetText_ev l hl hs a) ?_
  cases h : (getText l a).2.2 with
  | false => exact ev_ifn (by simp [noText]) (ev_some (by simp [noText]))
  | true => cases ok with
    | false => exact ev_ifp rfl (ev_ifn (by simp [noText]) (ev_some (by simp [noText])))
    | true => exact ev_ifp rfl (ev_ifp rfl (ev_some (by simp [noText])))

/-! spec_l6Const -/
theorem spec_l6Const_ev (l : List Int) (hl : Bs l) (hs : l.length ≤ 140737488355328) (a : Int) (ok : Bool) : Ev (fun k => spec_l6Const.f k l a ok) (rConst l a ok) := by
  unfold spec_l6Const.f rConst
  have t1 := rText_size l (rNum l a ok).2.1 (rNum l a ok).2.2 hl
  have t2 := rText_size l (rText l (rNum l a ok).2.1 (rNum l a ok).2.2).2.1 (rText l (rNum l a ok).2.1 (rNum l a ok).2.2).2.2 hl
  have z : (⟨#[]⟩ : ByteArray).size ≤ 140737488355328 := by simp [ByteArray.size]
  refine Ev.bind (spec_l3Num_ev l hl hs a ok) ?_
  by_cases h1 : (rNum l a ok).1 = 1
  · rw [if_pos h1]
    refine ev_ifp h1 (ev_call (spec_l3Word_eq l hl hs _ _) ?_)
    rw [h1]
    cases hw : (rWord l (rNum l a ok).2.1 (rNum l a ok).2.2).2.2 with
    | false => exact ev_ifn (by simp) (ev_some (by simp [noText]))
    | true => exact ev_ifp rfl (Ev.bind (spec_ConstOk_ev _ _ _ _ z z) (ev_some (by simp [noText])))
  · rw [if_neg h1]
    refine ev_ifn h1 (Ev.bind (spec_l6Text_ev l hl hs _ _) ?_)
    by_cases h2 : (rNum l a ok).1 = 2
    · rw [if_pos h2]
      refine ev_ifp h2 ?_
      rw [h2]
      cases hw : (rText l (rNum l a ok).2.1 (rNum l a ok).2.2).2.2 with
      | false => exact ev_ifn (by simp) (ev_some (by simp [noText]))
      | true => exact ev_ifp rfl (Ev.bind (spec_ConstOk_ev _ _ _ _ (by omega) z) (ev_some (by simp [noText])))
    · rw [if_neg h2]
      refine ev_ifn h2 (Ev.bind (spec_l6Text_ev l hl hs _ _) ?_)
      cases hw : (rText l (rText l (rNum l a ok).2.1 (rNum l a ok).2.2).2.1 (rText l (rNum l a ok).2.1 (rNum l a ok).2.2).2.2).2.2 with
      | false => exact ev_ifn (by simp) (ev_some (by simp))
      | true => exact ev_ifp rfl (Ev.bind (spec_ConstOk_ev _ _ _ _ (by omega) (by omega)) (ev_some (by simp)))

/-! spec_ConstOf -/
theorem spec_ConstOf_ev (l : List Int) (hl : Bs l) (hs : l.length ≤ 140737488355328) (a : Int) : Ev (fun k => spec_ConstOf.f k l a) (constOf l a) := by
  unfold spec_ConstOf.f constOf
  refine Ev.bind (spec_l6Const_ev l hl hs a true) ?_
  cases h : (rConst l a true).2.2.2.2.2 with
  | false => exact ev_ifn (by simp) (ev_some (by simp [noText]))
  | true => exact ev_ifp rfl (ev_some (by simp))

/-! laws_toByteS -/
theorem laws_toByteS_l0 (x : List Int) (hx : x.length ≤ 140737488355328) : ∀ (d : Nat) (acc : List Int) (i : Nat), i + d = x.length → acc.length = x.length → acc.take i = x.take i → Ev (fun k => laws_toByteS.l0 k x acc (i : Int)) x := by
  intro d
  induction d with
  | zero =>
    intro acc i hi hl ht
    refine Ev.step (fun _ => laws_toByteS.l0.eq_2 ..) ?_
    refine ev_ifn (by omega) (ev_some ?_)
    have h1 : acc.take i = acc := List.take_of_length_le (by omega)
    have h2 : x.take i = x := List.take_of_length_le (by omega)
    rw [h1, h2] at ht
    exact ht
  | succ d ih =>
    intro acc i hi hl ht
    refine Ev.step (fun _ => laws_toByteS.l0.eq_2 ..) ?_
    refine ev_ifp (by omega) (ev_ifp (by omega) (ev_ifp (by omega) ?_))
    simp only [wnext i (by omega)]
    refine ih _ (i + 1) (by omega) (by rw [List.length_set]; exact hl) ?_
    rw [rd_nat x i (by omega), Int.toNat_natCast]
    apply List.ext_getElem?
    intro j
    rw [List.getElem?_take, List.getElem?_take]
    by_cases hj : j < i + 1
    · rw [if_pos hj, if_pos hj]
      by_cases hji : j = i
      · subst hji
        rw [List.getElem?_set_self (by omega), List.getElem?_eq_getElem (by omega)]
      · rw [List.getElem?_set_ne (by omega)]
        have := congrArg (fun l => l[j]?) ht
        simp only [List.getElem?_take] at this
        rwa [if_pos (by omega), if_pos (by omega)] at this
    · rw [if_neg hj, if_neg hj]
theorem laws_toByteS_ev (x : List Int) (hx : x.length ≤ 140737488355328) : Ev (fun k => laws_toByteS.f k x) x := by
  unfold laws_toByteS.f
  refine ev_ifp (by omega) (ev_ifp (by omega) ?_)
  exact laws_toByteS_l0 x hx x.length _ 0 (by omega) (by simp) (by simp)

/-! impl_within -/
theorem impl_within_eq (a b c : Int) : impl_within.f a b c = some (decide (b ≤ a ∧ a ≤ c)) := by
  unfold impl_within.f
  by_cases h : a ≥ b
  · rw [if_pos h]; congr 1; simp; omega
  · rw [if_neg h]; congr 1; simp; omega

/-! impl_isWord -/
theorem impl_isWord_eq (n : Int) : impl_isWord.f n = some (decide (-2147483648 ≤ n ∧ n ≤ 2147483647)) := by
  unfold impl_isWord.f
  rw [impl_within_eq]; rfl

/-! impl_isName -/
theorem impl_isName_ev (s : ByteArray) (hs : s.size ≤ 140737488355328) : Ev (fun k => impl_isName.f k s) (isName s) := by
  refine all_ev (F := fun k i => impl_isName.l0 k s i) (fun i hi hg r hr => ?_) (fun i hi hg => ?_) ?_
  · have hb := bt_range s (i : Int)
    simp only [letter, decide_eq_true_eq] at hg
    refine Ev.step (fun _ => impl_isName.l0.eq_2 ..) ?_
    rw [w64 (n := bt s (i : Int)) (by omega) (by omega), wnext i (by omega)]
    refine ev_ifp (by omega) (ev_ifp (by omega) (ev_call (impl_within_eq ..) (ev_if (fun _ => hr) (fun h => ev_call (impl_within_eq ..) (ev_ifp ?_ hr)))))
    simp only [decide_eq_true_eq] at h ⊢
    omega
  · have hb := bt_range s (i : Int)
    simp only [letter, decide_eq_false_iff_not] at hg
    refine Ev.step (fun _ => impl_isName.l0.eq_2 ..) ?_
    rw [w64 (n := bt s (i : Int)) (by omega) (by omega)]
    refine ev_ifp (by omega) (ev_ifp (by omega) (ev_call (impl_within_eq ..) (ev_ifn ?_ (ev_call (impl_within_eq ..) (ev_ifn ?_ (ev_some rfl))))))
    · simp only [decide_eq_true_eq]; omega
    · simp only [decide_eq_true_eq]; omega
  · refine Ev.step (fun _ => impl_isName.l0.eq_2 ..) ?_
    exact ev_ifn (by omega) (ev_call (impl_within_eq ..) (ev_some rfl))

/-! impl_ConstOk -/
theorem impl_ConstOk_ev (kind n : Int) (a b : ByteArray) (ha : a.size ≤ 140737488355328) (hb : b.size ≤ 140737488355328) : Ev (fun k => impl_ConstOk.f k kind n a b) (constOk kind n a b) := by
  have hj : ∀ c : Bool, Ev (fun k => impl_ConstOk.j0 k c kind n a b) (c && (decide (n = 0) && isName a && isName b)) := by
    intro c
    refine Ev.step (fun _ => impl_ConstOk.j0.eq_2 ..) ?_
    cases c with
    | false => exact ev_ifn (by simp) (ev_some rfl)
    | true =>
      refine ev_ifp rfl ?_
      by_cases h0 : n = 0
      · refine ev_ifp h0 (Ev.bind (impl_isName_ev a ha) ?_)
        cases hna : isName a with
        | false => exact ev_ifn (by simp) (ev_some (by simp))
        | true => exact ev_ifp rfl (Ev.bind (impl_isName_ev b hb) (ev_some (by simp [h0])))
      · exact ev_ifn h0 (ev_some (by simp [h0]))
  unfold impl_ConstOk.f constOk
  by_cases h1 : kind = 1
  · rw [if_pos h1]
    refine ev_ifp h1 (ev_call (impl_isWord_eq n) ?_)
    by_cases hw : -2147483648 ≤ n ∧ n ≤ 2147483647
    · refine ev_ifp (by simpa using hw) ?_
      by_cases he : a.toList = []
      · exact ev_ifp he (ev_some (by simp [hw, he]))
      · exact ev_ifn he (ev_some (by simp [he]))
    · exact ev_ifn (by simpa using hw) (ev_some (by simp only [decide_eq_false hw, Bool.false_and]))
  · rw [if_neg h1]
    refine ev_ifn h1 ?_
    by_cases h2 : kind = 2
    · rw [if_pos h2]
      refine ev_ifp h2 ?_
      by_cases h0 : n = 0
      · refine ev_ifp h0 (Ev.bind (impl_isName_ev a ha) ?_)
        cases hna : isName a with
        | false => exact ev_ifn (by simp) (ev_some (by simp))
        | true => exact ev_ifp rfl (ev_some (by simp [h0]))
      · exact ev_ifn h0 (ev_some (by simp [h0]))
    · rw [if_neg h2]
      refine ev_ifn h2 ?_
      by_cases h3 : kind = 3
      · rw [if_pos (Or.inl h3)]
        refine ev_ifp h3 (ev_to (hj _) (by simp [h3]))
      · refine ev_ifn h3 (ev_to (hj _) ?_)
        by_cases h4 : kind = 4
        · rw [if_pos (Or.inr h4)]; simp [h4]
        · rw [if_neg (fun h => Or.elim h h3 h4)]; simp [h4]

/-! impl_GetNum -/
theorem impl_GetNum_l0 (l : List Int) (hl : Bs l) (hs : l.length ≤ 140737488355328) (a : Int) (ha : 0 ≤ a) (ha1 : a < l.length) : ∀ (f i : Nat) (n : Int), f + i = 4 → 0 ≤ n → n < 128 ^ i → Ev (fun k => impl_GetNum.l0 k l a n (i : Int)) (gnum l a f i n)
  | 0, i, n, hf, h0, h1 => by
    refine Ev.step (fun _ => impl_GetNum.l0.eq_2 ..) ?_
    refine ev_ifn (by omega) ?_
    refine Ev.step (fun _ => impl_GetNum.j2.eq_2 ..) ?_
    exact ev_ifn (by simp) (ev_some rfl)
  | f + 1, i, n, hf, h0, h1 => by
    have hp := pow7 i (by omega)
    have hb := rd_bs hl (a + i)
    have hx : 0 ≤ rd l (a + i) % 128 * 128 ^ i := Int.mul_nonneg (by omega) (by omega)
    have hx2 : n + rd l (a + i) % 128 * 128 ^ i < 128 ^ (i + 1) := by
      rw [Int.pow_succ]
      have : rd l (a + i) % 128 * 128 ^ i ≤ 127 * 128 ^ i := Int.mul_le_mul_of_nonneg_right (by omega) (by omega)
      omega
    have hp1 := pow7 (i + 1) (by omega)
    refine Ev.step (fun _ => impl_GetNum.l0.eq_2 ..) ?_
    refine ev_ifp (by omega) ?_
    refine Ev.step (fun _ => impl_GetNum.j2.eq_2 ..) ?_
    rw [w64 (n := a + i) (by omega) (by omega)]
    by_cases hb2 : a + i < (l.length : Int)
    · have hin : 0 ≤ a ∧ a + (i : Int) < (l.length : Int) := ⟨ha, hb2⟩
      refine ev_ifp (by simpa using hb2) ?_
      rw [w64 (n := rd l (a + i)) (by omega) (by omega), tmod_pos (n := rd l (a + i)) hb.1, shl7 i (by omega) _ (by omega) (by omega), w64 (n := n + rd l (a + i) % 128 * 128 ^ i) (by omega) (by omega)]
      refine ev_ifp (by omega) (ev_ifp hb2 (ev_ifp (by rw [w64 (by omega) (by omega)]; omega) ?_))
      rw [w64 (n := a + i + 1) (by omega) (by omega), wnext i (by omega)]
      by_cases hc : rd l (a + i) < 128
      · refine ev_ifn (by omega) ?_
        have hm : rd l (a + i) % 128 = rd l (a + i) := by omega
        rw [hm]
        by_cases hi : (i : Int) > 0
        · refine ev_ifp hi ?_
          by_cases hz : rd l (a + i) = 0
          · exact ev_ifp hz (ev_some (gnum_bad hin hc (Or.inl (And.intro (by omega) hz))).symm)
          · refine ev_ifn hz ?_
            by_cases hg : n + rd l (a + i) * 128 ^ i > 16777215
            · exact ev_ifp hg (ev_some (gnum_bad hin hc (Or.inr hg)).symm)
            · exact ev_ifn hg (ev_some (gnum_end hin hc (fun h => hz h.2) hg).symm)
        · refine ev_ifn hi ?_
          by_cases hg : n + rd l (a + i) * 128 ^ i > 16777215
          · exact ev_ifp hg (ev_some (gnum_bad hin hc (Or.inr hg)).symm)
          · exact ev_ifn hg (ev_some (gnum_end hin hc (fun h => hi (by omega)) hg).symm)
      · refine ev_ifp (by omega) ?_
        rw [gnum_more hin hc]
        exact impl_GetNum_l0 l hl hs a ha ha1 f (i + 1) _ (by omega) (by omega) hx2
    · exact ev_ifn (by simpa using hb2) (ev_some (gnum_out (fun h => hb2 h.2)).symm)
theorem impl_GetNum_ev (l : List Int) (hl : Bs l) (hs : l.length ≤ 140737488355328) (a : Int) : Ev (fun k => impl_GetNum.f k l a) (getNum l a) := by
  unfold impl_GetNum.f
  by_cases ha : a < 0
  · refine ev_ifp ha ?_
    refine Ev.step (fun _ => impl_GetNum.j0.eq_2 ..) ?_
    refine ev_ifp rfl (ev_some ?_)
    exact (gnum_out (by omega)).symm
  · refine ev_ifn ha ?_
    refine Ev.step (fun _ => impl_GetNum.j0.eq_2 ..) ?_
    by_cases hb : a ≥ (l.length : Int)
    · refine ev_ifp (by simpa using hb) (ev_some ?_)
      exact (gnum_out (by omega)).symm
    · refine ev_ifn (by simpa using hb) ?_
      exact impl_GetNum_l0 l hl hs a (by omega) (by omega) 4 0 0 rfl (by decide) (by decide)

/-! impl_reader_num -/
theorem impl_reader_num_ev (l : List Int) (hl : Bs l) (hs : l.length ≤ 140737488355328) (a : Int) (bad : Bool) : Ev (fun k => impl_reader_num.f k l a bad) ((rNum l a (!bad)).1, (rNum l a (!bad)).2.1, !(rNum l a (!bad)).2.2) := by
  unfold impl_reader_num.f rNum
  refine Ev.bind (impl_GetNum_ev l hl hs a) ?_
  cases bad with
  | true => exact ev_ifp rfl (ev_some (by simp))
  | false => cases h : (getNum l a).2.2 with
    | false => exact ev_ifn (by simp) (ev_ifn (by simp) (ev_some (by simp)))
    | true => exact ev_ifn (by simp) (ev_ifp rfl (ev_some (by simp)))

/-! impl_Round -/
theorem impl_Round_eq (n : Int) : impl_Round.f n = some (round n) := by
  unfold impl_Round.f
  rw [w64 (by rw [w32]; omega) (by rw [w32]; omega), w32]; rfl

/-! impl_GetWord -/
theorem impl_GetWord_eq (l : List Int) (i : Int) (hl : Bs l) (hs : l.length ≤ 140737488355328) : impl_GetWord.f l i = some (getWord l i) := by
  unfold impl_GetWord.f getWord
  by_cases h0 : i < 0
  · rw [if_pos h0, if_neg (by omega)]
  · rw [if_neg h0]
    by_cases h2 : (l.length : Int) < 4
    · rw [if_pos h2, if_neg (by omega)]
    rw [if_neg h2, w64 (n := (l.length : Int) - 4) (by omega) (by omega)]
    by_cases h1 : i > (l.length : Int) - 4
    · rw [if_pos h1, if_neg (by omega)]
    · rw [if_neg h1, if_pos (by omega), w64 (n := i + 1) (by omega) (by omega), w64 (n := i + 2) (by omega) (by omega), w64 (n := i + 3) (by omega) (by omega), w64 (n := i + 4) (by omega) (by omega)]
      rw [if_pos (by omega), if_pos (by omega), if_pos (by omega), if_pos (by omega), if_pos (by omega), if_pos (by omega), if_pos (by omega), if_pos (by omega)]
      rw [le4 _ _ _ _ (rd_bs hl _) (rd_bs hl _) (rd_bs hl _) (rd_bs hl _), impl_Round_eq]
      rfl

/-! impl_reader_word -/
theorem impl_reader_word_eq (l : List Int) (hl : Bs l) (hs : l.length ≤ 140737488355328) (a : Int) (bad : Bool) : impl_reader_word.f l a bad = some ((rWord l a (!bad)).1, (rWord l a (!bad)).2.1, !(rWord l a (!bad)).2.2) := by
  unfold impl_reader_word.f rWord
  rw [impl_GetWord_eq l a hl hs, Option.bind_some]
  cases h : (getWord l a).2.2 <;> cases bad <;> simp

/-! impl_GetText -/
theorem impl_GetText_ev (l : List Int) (hl : Bs l) (hs : l.length ≤ 140737488355328) (a : Int) : Ev (fun k => impl_GetText.f k l a) (getText l a) := by
  unfold impl_GetText.f
  refine Ev.bind (impl_GetNum_ev l hl hs a) ?_
  by_cases hk : (getNum l a).2.2 = true
  · have hb := getNum_ok hl hk
    refine ev_ifp hk ?_
    rw [w64 (n := (l.length : Int) - (getNum l a).2.1) (by omega) (by omega), w64 (n := (getNum l a).2.1 + (getNum l a).1) (by omega) (by omega)]
    by_cases h1 : (getNum l a).1 > 200
    · exact ev_ifp h1 (ev_some (by unfold getText; rw [if_neg (fun h => absurd h.2.1 (by omega))]))
    · refine ev_ifn h1 ?_
      by_cases h2 : (getNum l a).1 > (l.length : Int) - (getNum l a).2.1
      · exact ev_ifp h2 (ev_some (by unfold getText; rw [if_neg (fun h => absurd h.2.2 (by omega))]))
      · exact ev_ifn h2 (ev_ifp (by omega) (ev_ifp (by omega) (ev_ifp (by omega) (ev_some (by unfold getText; rw [if_pos ⟨hk, by omega, by omega⟩])))))
  · exact ev_ifn hk (ev_some (by unfold getText; rw [if_neg (fun h => hk h.1)]))

/-! impl_reader_text -/
theorem impl_reader_text_ev (l : List Int) (hl : Bs l) (hs : l.length ≤ 140737488355328) (a : Int) (bad : Bool) : Ev (fun k => impl_reader_text.f k l a bad) ((rText l a (!bad)).1, (rText l a (!bad)).2.1, !(rText l a (!bad)).2.2) := by
  unfold impl_reader_text.f rText
  refine Ev.bind (impl_GetText_ev l hl hs a) ?_
  cases bad with
  | true => exact ev_ifp rfl (ev_some (by simp [noText]))
  | false => cases h : (getText l a).2.2 with
    | false => exact ev_ifn (by simp [noText]) (ev_ifn (by simp [noText]) (ev_some (by simp [noText])))
    | true => exact ev_ifn (by simp [noText]) (ev_ifp rfl (ev_some (by simp [noText])))

/-! impl_reader_constant -/
/-- The program's reader comes to the same: where the constant is none it is spoilt. -/
theorem impl_reader_constant_ok (l : List Int) (hl : Bs l) (hs : l.length ≤ 140737488355328) (a : Int) (bad : Bool) :
    EvP (fun k => impl_reader_constant.f k l a bad) (fun r => r.2.2.2.2.2 = !(rConst l a (!bad)).2.2.2.2.2 ∧ ((rConst l a (!bad)).2.2.2.2.2 = true → r = ((rConst l a (!bad)).1, (rConst l a (!bad)).2.1, (rConst l a (!bad)).2.2.1, (rConst l a (!bad)).2.2.2.1, (rConst l a (!bad)).2.2.2.2.1, false))) := by
  unfold impl_reader_constant.f
  have t1 := rText_size l (rNum l a (!bad)).2.1 (rNum l a (!bad)).2.2 hl
  have t2 := rText_size l (rText l (rNum l a (!bad)).2.1 (rNum l a (!bad)).2.2).2.1 (rText l (rNum l a (!bad)).2.1 (rNum l a (!bad)).2.2).2.2 hl
  have z : (⟨#[]⟩ : ByteArray).size ≤ 140737488355328 := by simp [ByteArray.size]
  refine EvP.ev_ (impl_reader_num_ev l hl hs a bad) ?_
  by_cases h1 : (rNum l a (!bad)).1 = 1
  · refine EvP.ifp h1 (EvP.eq (impl_reader_word_eq l hl hs _ _) ?_)
    simp only [Bool.not_not]
    refine EvP.ev_ (impl_ConstOk_ev _ _ _ _ z z) ?_
    unfold rConst
    rw [if_pos h1]
    simp only [h1, noText]
    refine EvP.ite (fun hc => EvP.some ⟨?_, fun h => ?_⟩) (fun hc => EvP.some ⟨?_, fun h => ?_⟩)
    · simp [hc]
    · simp at h; simp [h]
    · simp at hc; simp [hc]
    · simp at h hc; simp [hc] at h
  · refine EvP.ifn h1 ?_
    by_cases h2 : (rNum l a (!bad)).1 = 2
    · refine EvP.ifp h2 (EvP.ev_ (impl_reader_text_ev l hl hs _ _) ?_)
      simp only [Bool.not_not]
      refine EvP.ev_ (impl_ConstOk_ev _ _ _ _ (by omega) z) ?_
      unfold rConst
      rw [if_neg h1, if_pos h2]
      simp only [h2, noText]
      refine EvP.ite (fun hc => EvP.some ⟨?_, fun h => ?_⟩) (fun hc => EvP.some ⟨?_, fun h => ?_⟩)
      · simp [hc]
      · simp at h; simp [h]
      · simp at hc; simp [hc]
      · simp at h hc; simp [hc] at h
    · have hj : ∀ c : Bool, (c = true ↔ ((rNum l a (!bad)).1 = 3 ∨ (rNum l a (!bad)).1 = 4)) → EvP (fun k => impl_reader_constant.j0 k c l (rNum l a (!bad)).2.1 (!(rNum l a (!bad)).2.2) (rNum l a (!bad)).1 0 (⟨#[]⟩ : ByteArray) (⟨#[]⟩ : ByteArray)) (fun r => r.2.2.2.2.2 = !(rConst l a (!bad)).2.2.2.2.2 ∧ ((rConst l a (!bad)).2.2.2.2.2 = true → r = ((rConst l a (!bad)).1, (rConst l a (!bad)).2.1, (rConst l a (!bad)).2.2.1, (rConst l a (!bad)).2.2.2.1, (rConst l a (!bad)).2.2.2.2.1, false))) := by
        intro c hc34
        refine EvP.step (fun _ => impl_reader_constant.j0.eq_2 ..) ?_
        unfold rConst
        rw [if_neg h1, if_neg h2]
        cases c with
        | true =>
          refine EvP.ifp rfl (EvP.ev_ (impl_reader_text_ev l hl hs _ _) ?_)
          simp only [Bool.not_not]
          refine EvP.ev_ (impl_reader_text_ev l hl hs _ _) ?_
          simp only [Bool.not_not]
          refine EvP.ev_ (impl_ConstOk_ev _ _ _ _ (by omega) (by omega)) ?_
          refine EvP.ite (fun hc => EvP.some ⟨?_, fun h => ?_⟩) (fun hc => EvP.some ⟨?_, fun h => ?_⟩)
          · simp [hc]
          · simp at h; simp [h]
          · simp at hc; simp [hc]
          · simp at h hc; simp [hc] at h
        | false =>
          have hn : ¬ ((rNum l a (!bad)).1 = 3 ∨ (rNum l a (!bad)).1 = 4) := fun h => by simpa using hc34.2 h
          have hf : ∀ x y n, constOk (rNum l a (!bad)).1 n x y = false := fun x y n => by
            unfold constOk
            rw [if_neg h1, if_neg h2, if_neg hn]
          refine EvP.ifn (by simp) (EvP.ev_ (impl_ConstOk_ev _ _ _ _ z z) ?_)
          simp only [hf]
          exact EvP.ifn (by simp) (EvP.some ⟨by simp, by simp⟩)
      refine EvP.ifn h2 (EvP.ite (fun h3 => hj _ (by have h4 : (rNum l a (!bad)).1 = 3 := h3; simp [h4])) (fun h3 => hj _ (by have h4 : ¬ (rNum l a (!bad)).1 = 3 := h3; simp [h4])))

/-! impl_ConstOf -/
theorem impl_ConstOf_ev (l : List Int) (hl : Bs l) (hs : l.length ≤ 140737488355328) (a : Int) : Ev (fun k => impl_ConstOf.f k l a) (constOf l a) := by
  unfold impl_ConstOf.f constOf
  obtain ⟨r, hr, h1, h2⟩ := impl_reader_constant_ok l hl hs a false
  simp only [Bool.not_false] at h1 h2
  refine Ev.bind hr ?_
  cases h : (rConst l a true).2.2.2.2.2 with
  | false =>
    rw [h] at h1
    exact ev_ifp h1 (ev_some (by simp [noText]))
  | true =>
    have e := h2 h
    rw [e]
    exact ev_ifn (by simp) (ev_some (by simp))

theorem FnExactConstOf (l : List Int) (i : Int) (h : l.length ≤ maxLen ∧ ∀ x ∈ l, (Lit.int .u8 x).wf = true) (hi : (Lit.int .i64 i).wf = true) : ∃ k, laws_FnExactConstOf.f k l i = some true := by
  obtain ⟨hs, hb⟩ := h
  have hB := bs_of hb
  refine Ev.rounds (r := true) ?_
  unfold laws_FnExactConstOf.f
  refine ev_if (fun _ => ev_some rfl) (fun h => ?_)
  have t := laws_toByteS_ev l (by omega)
  refine Ev.bind t (Ev.bind (spec_ConstOf_ev l hB (by omega) i) (Ev.bind t (Ev.bind (impl_ConstOf_ev l hB (by omega) i) ?_)))
  refine ev_call (a := true) (by simp [laws_eqConst.f]) (ev_ifp rfl (ev_ifp rfl ?_))
  refine Ev.step (fun _ => laws_FnExactConstOf.j0.eq_2 ..) ?_
  refine ev_ifn (by simp) (Ev.bind t (Ev.bind (laws_eqByteS_ev l (by omega)) ?_))
  exact ev_ifp rfl (ev_some rfl)

end Go.Proofs.Ytfpghkgfodnjmaa.Pure
