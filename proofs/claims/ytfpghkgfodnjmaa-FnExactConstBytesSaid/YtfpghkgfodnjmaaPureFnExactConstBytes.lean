/- The pure statement of FnExactConstBytes: at every argument the law answers true. No condition. -/
import Derived.Test.YtfpghkgfodnjmaaMFnExactConstBytesx5
import Derived.Test.YtfpghkgfodnjmaaLib1
import Derived.Test.YtfpghkgfodnjmaaLib2
set_option linter.unusedVariables false
set_option linter.unusedSimpArgs false
namespace Go.Proofs.Ytfpghkgfodnjmaa.Pure
open Go.RowKit Go.Proofs.Ytfpghkgfodnjmaa.MFnExactConstBytes Go.Proofs.YtfpghkgfodnjmaaW.PrintWords Go.Proofs.YtfpghkgfodnjmaaW.PrintLast Go.Proofs.YtfpghkgfodnjmaaW.PrintMore Go.Proofs.YtfpghkgfodnjmaaLib

/-! laws_szConst -/
theorem laws_szConst_ok (kind n : Int) (a b : ByteArray) (ha : a.size ≤ 9223372036854775807) (hb : b.size ≤ 9223372036854775807) : ∃ z, laws_szConst.f kind n a b 1048576 = some z ∧ (0 ≤ z → a.size ≤ 1048576 ∧ b.size ≤ 1048576) := by
  unfold laws_szConst.f
  rw [w64 (n := (1048576 : Int) - (a.size : Int)) (by omega) (by omega)]
  by_cases h : (1048576 : Int) - (a.size : Int) < 0
  · rw [if_pos h]; exact ⟨_, rfl, fun h => absurd h (by decide)⟩
  · rw [if_neg h, w64 (n := (1048576 : Int) - (a.size : Int) - (b.size : Int)) (by omega) (by omega)]
    by_cases h2 : (1048576 : Int) - (a.size : Int) - (b.size : Int) < 0
    · rw [if_pos h2]; exact ⟨_, rfl, fun h => absurd h (by decide)⟩
    · rw [if_neg h2]; exact ⟨_, rfl, fun h => by omega⟩

/-! spec_l1In -/
theorem spec_l1In_eq (a b c : Int) : spec_l1In.f a b c = some (decide (b ≤ a ∧ a ≤ c)) := by
  unfold spec_l1In.f
  by_cases h : a ≥ b
  · rw [if_pos h]; congr 1; simp; omega
  · rw [if_neg h]; congr 1; simp; omega

/-! spec_PutNum -/
theorem spec_PutNum_l0 : ∀ (f : Nat) (x : Int) (acc : List Int), 0 ≤ x → x < 128 ^ (f + 1) → x ≤ 16777215 → acc.length + f < 1000 → Ev (fun k => spec_PutNum.l0 k x acc) (acc ++ digs f x)
  | 0, x, acc, h0, h1, h2, h3 => by
    simp at h1
    refine Ev.step (fun _ => spec_PutNum.l0.eq_2 ..) ?_
    refine ev_ifn (by omega) (ev_ifp (by omega) (ev_some ?_))
    rw [digs, Int.emod_eq_of_lt h0 (by omega)]
  | f + 1, x, acc, h0, h1, h2, h3 => by
    refine Ev.step (fun _ => spec_PutNum.l0.eq_2 ..) ?_
    by_cases hc : x > 127
    · refine ev_ifp hc (ev_ifp (by omega) ?_)
      rw [digs, if_pos hc]
      have h4 : x / 128 < 128 ^ (f + 1) := Int.ediv_lt_of_lt_mul (by decide) (by rw [← Int.pow_succ]; exact h1)
      rw [tdiv_pos h0, tmod_pos h0, w64 (n := x / 128) (by omega) (by omega), w64 (n := x % 128 + 128) (by omega) (by omega), Int.emod_eq_of_lt (a := x % 128 + 128) (by omega) (by omega)]
      have := spec_PutNum_l0 f (x / 128) (acc ++ [x % 128 + 128]) (by omega) h4 (by omega) (by rw [List.length_append]; simp; omega)
      simpa using this
    · refine ev_ifn hc (ev_ifp (by omega) (ev_some ?_))
      rw [digs, if_neg hc, Int.emod_eq_of_lt h0 (by omega)]
theorem spec_PutNum_ev (n : Int) : Ev (fun k => spec_PutNum.f k n) (putNum n) := by
  unfold spec_PutNum.f putNum
  refine ev_call rfl (ev_call (spec_l1In_eq n 0 16777215) ?_)
  by_cases h : 0 ≤ n ∧ n ≤ 16777215
  · rw [if_pos h]
    refine ev_ifp (by simpa using h) ?_
    exact spec_PutNum_l0 3 n [] h.1 (by have : (128 : Int) ^ (3 + 1) = 268435456 := by decide
                                        omega) h.2 (by simp)
  · rw [if_neg h]
    exact ev_ifn (by simpa using h) (ev_some rfl)

/-! spec_PutText -/
theorem spec_PutText_ev (s : ByteArray) (hs : s.size ≤ 140737488355328) : Ev (fun k => spec_PutText.f k s) (putText s) := by
  unfold spec_PutText.f putText
  have hb := bytesOf_length s
  have hp := putNum_len (s.size : Int)
  by_cases h : (s.size : Int) > 200
  · rw [if_pos h]
    exact ev_ifp h (ev_some rfl)
  · rw [if_neg h]
    exact ev_ifn h (Ev.bind (spec_PutNum_ev _) (ev_ifp hs (ev_call rfl (ev_ifp (by omega) (ev_some rfl)))))

/-! spec_l1Word -/
theorem spec_l1Word_eq (n : Int) : spec_l1Word.f n = some (decide (-2147483648 ≤ n ∧ n ≤ 2147483647)) := by
  unfold spec_l1Word.f
  rw [spec_l1In_eq]; rfl

/-! spec_l1Name -/
theorem spec_l1Name_ev (s : ByteArray) (hs : s.size ≤ 140737488355328) : Ev (fun k => spec_l1Name.f k s) (isName s) := by
  refine all_ev (F := fun k i => spec_l1Name.l0 k s i) (fun i hi hg r hr => ?_) (fun i hi hg => ?_) ?_
  · have hb := bt_range s (i : Int)
    simp only [letter, decide_eq_true_eq] at hg
    refine Ev.step (fun _ => spec_l1Name.l0.eq_2 ..) ?_
    rw [wnext i (by omega)]
    refine ev_ifp (by omega) (ev_ifp (by omega) ?_)
    by_cases h1 : bt s (i : Int) ≥ 97
    · refine ev_ifp h1 ?_
      by_cases h2 : bt s (i : Int) ≤ 122
      · exact ev_ifp h2 hr
      · exact ev_ifn h2 (ev_ifp (by omega) (ev_ifp (by omega) hr))
    · exact ev_ifn h1 (ev_ifp (by omega) (ev_ifp (by omega) hr))
  · have hb := bt_range s (i : Int)
    simp only [letter, decide_eq_false_iff_not] at hg
    refine Ev.step (fun _ => spec_l1Name.l0.eq_2 ..) ?_
    refine ev_ifp (by omega) (ev_ifp (by omega) ?_)
    by_cases h1 : bt s (i : Int) ≥ 97
    · exact ev_ifp h1 (ev_ifn (by omega) (ev_ifp (by omega) (ev_ifn (by omega) (ev_some rfl))))
    · refine ev_ifn h1 ?_
      by_cases h2 : bt s (i : Int) ≥ 65
      · exact ev_ifp h2 (ev_ifn (by omega) (ev_some rfl))
      · exact ev_ifn h2 (ev_some rfl)
  · refine Ev.step (fun _ => spec_l1Name.l0.eq_2 ..) ?_
    exact ev_ifn (by omega) (ev_call (spec_l1In_eq ..) (ev_some rfl))

/-! spec_ConstOk -/
theorem spec_ConstOk_ev (kind n : Int) (a b : ByteArray) (ha : a.size ≤ 140737488355328) (hb : b.size ≤ 140737488355328) : Ev (fun k => spec_ConstOk.f k kind n a b) (constOk kind n a b) := by
  have hj : ∀ c : Bool, Ev (fun k => spec_ConstOk.j0 k c kind n a b) (c && (decide (n = 0) && isName a && isName b)) := by
    intro c
    refine Ev.step (fun _ => spec_ConstOk.j0.eq_2 ..) ?_
    cases c with
    | false => exact ev_ifn (by simp) (ev_some rfl)
    | true =>
      refine ev_ifp rfl ?_
      by_cases h0 : n = 0
      · refine ev_ifp h0 (Ev.bind (spec_l1Name_ev a ha) ?_)
        cases hna : isName a with
        | false => exact ev_ifn (by simp) (ev_some (by simp))
        | true => exact ev_ifp rfl (Ev.bind (spec_l1Name_ev b hb) (ev_some (by simp [h0])))
      · exact ev_ifn h0 (ev_some (by simp [h0]))
  unfold spec_ConstOk.f constOk
  by_cases h1 : kind = 1
  · rw [if_pos h1]
    refine ev_ifp h1 (ev_call (spec_l1Word_eq n) ?_)
    by_cases hw : -2147483648 ≤ n ∧ n ≤ 2147483647
    · refine ev_ifp (by simpa using hw) ?_
      by_cases he : a.toList = []
      · exact ev_ifp he (ev_some (by simp [hw, he]))
      · exact ev_ifn he (ev_some (by simp [he]))
    · exact ev_ifn (by simpa using hw) (ev_some (by simp only [decide_eq_false hw, Bool.false_and]))
  · rw [if_neg h1]
    refine ev_ifn h1 ?_
    by_cases h2 : kind = 2
    · rw [if_pos h2]
      refine ev_ifp h2 ?_
      by_cases h0 : n = 0
      · refine ev_ifp h0 (Ev.bind (spec_l1Name_ev a ha) ?_)
        cases hna : isName a with
        | false => exact ev_ifn (by simp) (ev_some (by simp))
        | true => exact ev_ifp rfl (ev_some (by simp [h0]))
      · exact ev_ifn h0 (ev_some (by simp [h0]))
    · rw [if_neg h2]
      refine ev_ifn h2 ?_
      by_cases h3 : kind = 3
      · rw [if_pos (Or.inl h3)]
        refine ev_ifp h3 (ev_to (hj _) (by simp [h3]))
      · refine ev_ifn h3 (ev_to (hj _) ?_)
        by_cases h4 : kind = 4
        · rw [if_pos (Or.inr h4)]; simp [h4]
        · rw [if_neg (fun h => Or.elim h h3 h4)]; simp [h4]

/-! spec_PutWord -/
theorem spec_PutWord_eq (n : Int) : spec_PutWord.f n = some (putWord n) := by
  unfold spec_PutWord.f putWord
  rw [spec_l1Word_eq]
  by_cases h : -2147483648 ≤ n ∧ n ≤ 2147483647
  · simp [h, four]
  · rw [if_neg h]; simp [h]

/-! spec_ConstBytes -/
theorem spec_ConstBytes_ev (kind n : Int) (a b : ByteArray) (ha : a.size ≤ 140737488355328) (hb : b.size ≤ 140737488355328) : Ev (fun k => spec_ConstBytes.f k kind n a b) (constBytes kind n a b) := by
  unfold spec_ConstBytes.f
  have l1 := putNum_len kind
  have l2 := putWord_len n
  have l3 := putText_len a
  have l4 := putText_len b
  refine Ev.bind (spec_ConstOk_ev kind n a b ha hb) ?_
  by_cases hc : constOk kind n a b = true
  · have e : constBytes kind n a b = (if kind = 1 then putNum kind ++ putWord n else if kind = 2 then putNum kind ++ putText a else putNum kind ++ putText a ++ putText b) := by
      unfold constBytes
      rw [if_pos hc]
    rw [e]
    refine ev_ifp hc (Ev.bind (spec_PutNum_ev kind) ?_)
    by_cases h1 : kind = 1
    · rw [if_pos h1]
      exact ev_ifp h1 (ev_call (spec_PutWord_eq n) (ev_ifp (by omega) (ev_some rfl)))
    · rw [if_neg h1]
      refine ev_ifn h1 (Ev.bind (spec_PutText_ev a ha) (ev_ifp (by omega) (ev_call rfl ?_)))
      by_cases h2 : kind = 2
      · rw [if_pos h2]
        exact ev_ifp h2 (ev_some rfl)
      · rw [if_neg h2]
        exact ev_ifn h2 (Ev.bind (spec_PutText_ev b hb) (ev_ifp (by rw [List.length_append]; omega) (ev_some rfl)))
  · have e : constBytes kind n a b = [] := by
      unfold constBytes
      rw [if_neg hc]
    rw [e]
    exact ev_ifn hc (ev_some rfl)

/-! impl_within -/
theorem impl_within_eq (a b c : Int) : impl_within.f a b c = some (decide (b ≤ a ∧ a ≤ c)) := by
  unfold impl_within.f
  by_cases h : a ≥ b
  · rw [if_pos h]; congr 1; simp; omega
  · rw [if_neg h]; congr 1; simp; omega

/-! impl_PutNum -/
theorem impl_PutNum_l0 : ∀ (f : Nat) (x : Int) (acc : List Int), 0 ≤ x → x < 128 ^ (f + 1) → x ≤ 16777215 → acc.length + f < 1000 → Ev (fun k => impl_PutNum.l0 k x acc) (acc ++ digs f x)
  | 0, x, acc, h0, h1, h2, h3 => by
    simp at h1
    refine Ev.step (fun _ => impl_PutNum.l0.eq_2 ..) ?_
    refine ev_ifn (by omega) (ev_ifp (by omega) (ev_some ?_))
    rw [digs, Int.emod_eq_of_lt h0 (by omega)]
  | f + 1, x, acc, h0, h1, h2, h3 => by
    refine Ev.step (fun _ => impl_PutNum.l0.eq_2 ..) ?_
    by_cases hc : x > 127
    · refine ev_ifp (by omega) (ev_ifp (by omega) ?_)
      rw [digs, if_pos hc]
      have h4 : x / 128 < 128 ^ (f + 1) := Int.ediv_lt_of_lt_mul (by decide) (by rw [← Int.pow_succ]; exact h1)
      rw [tdiv_pos h0, tmod_pos h0, w64 (n := x / 128) (by omega) (by omega), w64 (n := x % 128 + 128) (by omega) (by omega), Int.emod_eq_of_lt (a := x % 128 + 128) (by omega) (by omega)]
      have := impl_PutNum_l0 f (x / 128) (acc ++ [x % 128 + 128]) (by omega) h4 (by omega) (by rw [List.length_append]; simp; omega)
      simpa using this
    · refine ev_ifn (by omega) (ev_ifp (by omega) (ev_some ?_))
      rw [digs, if_neg hc, Int.emod_eq_of_lt h0 (by omega)]
theorem impl_PutNum_ev (n : Int) : Ev (fun k => impl_PutNum.f k n) (putNum n) := by
  unfold impl_PutNum.f putNum
  refine ev_call (impl_within_eq n 0 16777215) ?_
  by_cases h : 0 ≤ n ∧ n ≤ 16777215
  · rw [if_pos h]
    refine ev_ifp (by simpa using h) ?_
    exact impl_PutNum_l0 3 n [] h.1 (by have : (128 : Int) ^ (3 + 1) = 268435456 := by decide
                                        omega) h.2 (by simp)
  · rw [if_neg h]
    exact ev_ifn (by simpa using h) (ev_some rfl)

/-! impl_join -/
theorem impl_join_l0 (ls : List (List Int)) (hn : ls.length ≤ 1000) : ∀ (rest pre : List (List Int)) (acc : List Int), ls = pre ++ rest → acc.length + rest.flatten.length < 140737488355328 → Ev (fun k => impl_join.l0 k acc ls (ls.length : Int) (pre.length : Int)) (acc ++ rest.flatten)
  | [], pre, acc, he, h0 => by
    refine Ev.step (fun _ => impl_join.l0.eq_2 ..) ?_
    exact ev_ifn (by rw [he]; simp) (ev_some (by simp))
  | x :: rest, pre, acc, he, h0 => by
    have hl : ls.length = pre.length + (rest.length + 1) := by rw [he]; simp
    rw [List.flatten_cons, List.length_append] at h0
    have hr : rd_L1 ls (pre.length : Int) = x := by
      unfold rd_L1; rw [he]; simp
    refine Ev.step (fun _ => impl_join.l0.eq_2 ..) ?_
    rw [hr]
    refine ev_ifp (by omega) (ev_ifp (by omega) (ev_ifp (by omega) (ev_ifp (by omega) ?_)))
    have e2 : ((pre.length : Int)) + 1 = ((pre ++ [x]).length : Int) := by simp
    rw [w64 (n := (pre.length : Int) + 1) (by omega) (by omega), e2]
    refine ev_to (impl_join_l0 ls hn rest (pre ++ [x]) (acc ++ x) (by rw [he]; simp) (by rw [List.length_append]; omega)) ?_
    simp
theorem impl_join_ev (ls : List (List Int)) (hn : ls.length ≤ 1000) (h : ls.flatten.length < 140737488355328) : Ev (fun k => impl_join.f k ls) ls.flatten :=
  impl_join_l0 ls hn ls [] [] rfl (by simpa using h)

/-! impl_PutText -/
theorem impl_PutText_ev (s : ByteArray) (hs : s.size ≤ 140737488355328) : Ev (fun k => impl_PutText.f k s) (putText s) := by
  unfold impl_PutText.f putText
  have hb := bytesOf_length s
  have hp := putNum_len (s.size : Int)
  by_cases h : (s.size : Int) > 200
  · rw [if_pos h]
    exact ev_ifp h (ev_some rfl)
  · rw [if_neg h]
    exact ev_ifn h (Ev.bind (impl_PutNum_ev _) (ev_ifp hs (Ev.bind (impl_join_ev _ (by simp) (by simp; omega)) (ev_some (by simp)))))

/-! impl_isWord -/
theorem impl_isWord_eq (n : Int) : impl_isWord.f n = some (decide (-2147483648 ≤ n ∧ n ≤ 2147483647)) := by
  unfold impl_isWord.f
  rw [impl_within_eq]; rfl

/-! impl_isName -/
theorem impl_isName_ev (s : ByteArray) (hs : s.size ≤ 140737488355328) : Ev (fun k => impl_isName.f k s) (isName s) := by
  refine all_ev (F := fun k i => impl_isName.l0 k s i) (fun i hi hg r hr => ?_) (fun i hi hg => ?_) ?_
  · have hb := bt_range s (i : Int)
    simp only [letter, decide_eq_true_eq] at hg
    refine Ev.step (fun _ => impl_isName.l0.eq_2 ..) ?_
    rw [w64 (n := bt s (i : Int)) (by omega) (by omega), wnext i (by omega)]
    refine ev_ifp (by omega) (ev_ifp (by omega) (ev_call (impl_within_eq ..) (ev_if (fun _ => hr) (fun h => ev_call (impl_within_eq ..) (ev_ifp ?_ hr)))))
    simp only [decide_eq_true_eq] at h ⊢
    omega
  · have hb := bt_range s (i : Int)
    simp only [letter, decide_eq_false_iff_not] at hg
    refine Ev.step (fun _ => impl_isName.l0.eq_2 ..) ?_
    rw [w64 (n := bt s (i : Int)) (by omega) (by omega)]
    refine ev_ifp (by omega) (ev_ifp (by omega) (ev_call (impl_within_eq ..) (ev_ifn ?_ (ev_call (impl_within_eq ..) (ev_ifn ?_ (ev_some rfl))))))
    · simp only [decide_eq_true_eq]; omega
    · simp only [decide_eq_true_eq]; omega
  · refine Ev.step (fun _ => impl_isName.l0.eq_2 ..) ?_
    exact ev_ifn (by omega) (ev_call (impl_within_eq ..) (ev_some rfl))

/-! impl_ConstOk -/
theorem impl_ConstOk_ev (kind n : Int) (a b : ByteArray) (ha : a.size ≤ 140737488355328) (hb : b.size ≤ 140737488355328) : Ev (fun k => impl_ConstOk.f k kind n a b) (constOk kind n a b) := by
  have hj : ∀ c : Bool, Ev (fun k => impl_ConstOk.j0 k c kind n a b) (c && (decide (n = 0) && isName a && isName b)) := by
    intro c
    refine Ev.step (fun _ => impl_ConstOk.j0.eq_2 ..) ?_
    cases c with
    | false => exact ev_ifn (by simp) (ev_some rfl)
    | true =>
      refine ev_ifp rfl ?_
      by_cases h0 : n = 0
      · refine ev_ifp h0 (Ev.bind (impl_isName_ev a ha) ?_)
        cases hna : isName a with
        | false => exact ev_ifn (by simp) (ev_some (by simp))
        | true => exact ev_ifp rfl (Ev.bind (impl_isName_ev b hb) (ev_some (by simp [h0])))
      · exact ev_ifn h0 (ev_some (by simp [h0]))
  unfold impl_ConstOk.f constOk
  by_cases h1 : kind = 1
  · rw [if_pos h1]
    refine ev_ifp h1 (ev_call (impl_isWord_eq n) ?_)
    by_cases hw : -2147483648 ≤ n ∧ n ≤ 2147483647
    · refine ev_ifp (by simpa using hw) ?_
      by_cases he : a.toList = []
      · exact ev_ifp he (ev_some (by simp [hw, he]))
      · exact ev_ifn he (ev_some (by simp [he]))
    · exact ev_ifn (by simpa using hw) (ev_some (by simp only [decide_eq_false hw, Bool.false_and]))
  · rw [if_neg h1]
    refine ev_ifn h1 ?_
    by_cases h2 : kind = 2
    · rw [if_pos h2]
      refine ev_ifp h2 ?_
      by_cases h0 : n = 0
      · refine ev_ifp h0 (Ev.bind (impl_isName_ev a ha) ?_)
        cases hna : isName a with
        | false => exact ev_ifn (by simp) (ev_some (by simp))
        | true => exact ev_ifp rfl (ev_some (by simp [h0]))
      · exact ev_ifn h0 (ev_some (by simp [h0]))
    · rw [if_neg h2]
      refine ev_ifn h2 ?_
      by_cases h3 : kind = 3
      · rw [if_pos (Or.inl h3)]
        refine ev_ifp h3 (ev_to (hj _) (by simp [h3]))
      · refine ev_ifn h3 (ev_to (hj _) ?_)
        by_cases h4 : kind = 4
        · rw [if_pos (Or.inr h4)]; simp [h4]
        · rw [if_neg (fun h => Or.elim h h3 h4)]; simp [h4]

/-! impl_putFour -/
theorem and255 (n : Int) : bits .and .i64 n 255 = n % 256 := by
  have h := bits_and_mask n 8 (by decide)
  simpa using h
theorem impl_putFour_eq (n : Int) : impl_putFour.f n = some (four n) := by
  unfold impl_putFour.f four
  simp only [and255]
  congr 2
  · omega
  · congr 1
    · omega
    · congr 1
      · omega
      · congr 1; omega

/-! impl_PutWord -/
theorem impl_PutWord_eq (n : Int) : impl_PutWord.f n = some (putWord n) := by
  unfold impl_PutWord.f putWord
  rw [impl_isWord_eq]
  by_cases h : -2147483648 ≤ n ∧ n ≤ 2147483647
  · simp [h, impl_putFour_eq]
  · rw [if_neg h]; simp [h]

/-! impl_ConstBytes -/
theorem impl_ConstBytes_ev (kind n : Int) (a b : ByteArray) (ha : a.size ≤ 140737488355328) (hb : b.size ≤ 140737488355328) : Ev (fun k => impl_ConstBytes.f k kind n a b) (constBytes kind n a b) := by
  unfold impl_ConstBytes.f
  have l1 := putNum_len kind
  have l2 := putWord_len n
  have l3 := putText_len a
  have l4 := putText_len b
  refine Ev.bind (impl_ConstOk_ev kind n a b ha hb) ?_
  by_cases hc : constOk kind n a b = true
  · have e : constBytes kind n a b = (if kind = 1 then putNum kind ++ putWord n else if kind = 2 then putNum kind ++ putText a else putNum kind ++ putText a ++ putText b) := by
      unfold constBytes
      rw [if_pos hc]
    rw [e]
    refine ev_ifp hc ?_
    by_cases h1 : kind = 1
    · rw [if_pos h1]
      exact ev_ifp h1 (Ev.bind (impl_PutNum_ev kind) (ev_call (impl_PutWord_eq n) (Ev.bind (impl_join_ev _ (by simp) (by simp; omega)) (ev_some (by simp)))))
    · rw [if_neg h1]
      refine ev_ifn h1 ?_
      by_cases h2 : kind = 2
      · rw [if_pos h2]
        exact ev_ifp h2 (Ev.bind (impl_PutNum_ev kind) (Ev.bind (impl_PutText_ev a ha) (Ev.bind (impl_join_ev _ (by simp) (by simp; omega)) (ev_some (by simp)))))
      · rw [if_neg h2]
        exact ev_ifn h2 (Ev.bind (impl_PutNum_ev kind) (Ev.bind (impl_PutText_ev a ha) (Ev.bind (impl_PutText_ev b hb) (Ev.bind (impl_join_ev _ (by simp) (by simp; omega)) (ev_some (by simp))))))
  · have e : constBytes kind n a b = [] := by
      unfold constBytes
      rw [if_neg hc]
    rw [e]
    exact ev_ifn hc (ev_some rfl)

/-! laws_eqByteS -/
theorem laws_eqByteS_l0 (x : List Int) (hx : x.length ≤ 140737488355328) : ∀ (d i : Nat), i + d = x.length → Ev (fun k => laws_eqByteS.l0 k x x (i : Int)) true := by
  intro d
  induction d with
  | zero =>
    intro i hi
    refine Ev.step (fun _ => laws_eqByteS.l0.eq_2 ..) ?_
    exact ev_ifn (by omega) (ev_some rfl)
  | succ d ih =>
    intro i hi
    refine Ev.step (fun _ => laws_eqByteS.l0.eq_2 ..) ?_
    refine ev_ifp (by omega) (ev_ifp (by omega) (ev_ifp (by omega) (ev_ifp rfl ?_)))
    simp only [wnext i (by omega)]
    exact ih (i + 1) (by omega)
theorem laws_eqByteS_ev (x : List Int) (hx : x.length ≤ 140737488355328) : Ev (fun k => laws_eqByteS.f k x x) true := by
  unfold laws_eqByteS.f
  exact ev_ifp rfl (laws_eqByteS_l0 x hx x.length 0 (by omega))

/-! laws_markByteS -/
theorem laws_markByteS_l0 : ∀ (rest pre : List Int) (a : Int), pre.length + rest.length ≤ 140737488355328 → 0 ≤ a → a + rest.length ≤ 4611686018427387904 →
    Ev (fun k => laws_markByteS.l0 k (pre ++ rest) a (pre.length : Int)) (a + rest.length, pre ++ marks a rest.length)
  | [], pre, a, h0, h1, h2 => by
    refine Ev.step (fun _ => laws_markByteS.l0.eq_2 ..) ?_
    exact ev_ifn (by simp) (ev_some (by simp [marks]))
  | c :: rest, pre, a, h0, h1, h2 => by
    rw [List.length_cons] at h0 h2
    refine Ev.step (fun _ => laws_markByteS.l0.eq_2 ..) ?_
    refine ev_ifp (by rw [List.length_append, List.length_cons]; omega) (ev_ifp (by omega) ?_)
    have e1 : (pre ++ c :: rest).set (pre.length : Int).toNat (a % 256) = (pre ++ [a % 256]) ++ rest := by
      rw [Int.toNat_natCast, List.set_append_right _ _ (Nat.le_refl _)]; simp
    have e2 : ((pre.length : Int)) + 1 = ((pre ++ [a % 256]).length : Int) := by simp
    rw [e1, w64 (n := a + 1) (by omega) (by omega), w64 (n := (pre.length : Int) + 1) (by omega) (by omega), e2]
    refine ev_to (laws_markByteS_l0 rest (pre ++ [a % 256]) (a + 1) (by simp; omega) (by omega) (by omega)) ?_
    simp only [marks, List.length_cons, List.append_assoc, List.singleton_append, Prod.mk.injEq, and_true]
    omega
theorem laws_markByteS_ev (x : List Int) (a : Int) (h0 : x.length ≤ 140737488355328) (h1 : 0 ≤ a) (h2 : a + x.length ≤ 4611686018427387904) : Ev (fun k => laws_markByteS.f k x a) (a + x.length, marks a x.length) :=
  laws_markByteS_l0 x [] a (by simpa using h0) h1 h2

/-! laws_heldByteS -/
theorem laws_heldByteS_l0 : ∀ (n : Nat) (pre : List Int) (a : Int), pre.length + n ≤ 140737488355328 → 0 ≤ a → a + n ≤ 4611686018427387904 →
    Ev (fun k => laws_heldByteS.l0 k (pre ++ marks a n) a (pre.length : Int)) (a + n)
  | 0, pre, a, h0, h1, h2 => by
    refine Ev.step (fun _ => laws_heldByteS.l0.eq_2 ..) ?_
    exact ev_ifn (by simp [marks]) (ev_some (by simp))
  | n + 1, pre, a, h0, h1, h2 => by
    refine Ev.step (fun _ => laws_heldByteS.l0.eq_2 ..) ?_
    rw [marks]
    refine ev_ifp (by rw [List.length_append, List.length_cons]; omega) (ev_ifp (by omega) (ev_ifp (rd_mid _ _ _) ?_))
    have e1 : pre ++ a % 256 :: marks (a + 1) n = (pre ++ [a % 256]) ++ marks (a + 1) n := by simp
    have e2 : ((pre.length : Int)) + 1 = ((pre ++ [a % 256]).length : Int) := by simp
    rw [e1, w64 (n := a + 1) (by omega) (by omega), w64 (n := (pre.length : Int) + 1) (by omega) (by omega), e2]
    exact ev_to (laws_heldByteS_l0 n (pre ++ [a % 256]) (a + 1) (by simp; omega) (by omega) (by omega)) (by omega)
theorem laws_heldByteS_ev (n : Nat) (a : Int) (h0 : n ≤ 140737488355328) (h1 : 0 ≤ a) (h2 : a + n ≤ 4611686018427387904) : Ev (fun k => laws_heldByteS.f k (marks a n) a) (a + n) :=
  laws_heldByteS_l0 n [] a (by simpa using h0) h1 h2

theorem FnExactConstBytes (kind n : Int) (a b : ByteArray) (_ : (Lit.int .i64 kind).wf = true) (_ : (Lit.int .i64 n).wf = true) (ha : a.size ≤ maxLen) (hb : b.size ≤ maxLen) : ∃ k, laws_FnExactConstBytes.f k kind n a b = some true := by
  unfold maxLen at ha hb
  refine Ev.rounds (r := true) ?_
  unfold laws_FnExactConstBytes.f
  obtain ⟨z, hz, hz2⟩ := laws_szConst_ok kind n a b (by omega) (by omega)
  refine ev_call hz (ev_if (fun _ => ev_some rfl) (fun h => ?_))
  obtain ⟨ha2, hb2⟩ := hz2 (by omega)
  have hg := constBytes_len kind n a b
  have hto : laws_toConst.f kind n a b = some (kind, n, a, b) := rfl
  have hS := spec_ConstBytes_ev kind n a b (by omega) (by omega)
  have hI := impl_ConstBytes_ev kind n a b (by omega) (by omega)
  repeat' first
    | exact ev_some rfl
    | refine ev_call (hto) ?_
    | refine Ev.bind (hS) ?_
    | refine Ev.bind (hI) ?_
    | refine Ev.bind (laws_eqByteS_ev _ (by omega)) ?_
    | refine Ev.bind (laws_markByteS_ev _ _ (by omega) (by decide) (by omega)) ?_
    | refine Ev.bind (laws_heldByteS_ev _ _ (by omega) (by decide) (by omega)) ?_
    | refine ev_ifp (by with_reducible rfl) ?_
    | refine ev_ifn (by simp only [bne_self_eq_false, Bool.false_eq_true, not_false_eq_true]) ?_
    | refine ev_ifp (by first | decide | omega) ?_
    | refine ev_ifn (by first | decide | omega) ?_

end Go.Proofs.Ytfpghkgfodnjmaa.Pure
