/- The pure statement of FnExactPutText: at every argument the law answers true. No condition. -/
import Derived.Test.YtcableidjknlfaaMFnExactPutTextx2
import Derived.Test.YtcableidjknlfaaLib1
import Derived.Test.YtcableidjknlfaaLib2
set_option linter.unusedVariables false
set_option linter.unusedSimpArgs false
namespace Go.Proofs.Ytcableidjknlfaa.Pure
open Go.RowKit Go.Proofs.Ytcableidjknlfaa.MFnExactPutText Go.Proofs.YtcableidjknlfaaW.PrintWords Go.Proofs.YtcableidjknlfaaW.PrintLast Go.Proofs.YtcableidjknlfaaW.PrintMore Go.Proofs.YtcableidjknlfaaLib

/-! laws_eqByteS -/
theorem laws_eqByteS_l0 (x : List Int) (hx : x.length ≤ 140737488355328) : ∀ (d i : Nat), i + d = x.length → Ev (fun k => laws_eqByteS.l0 k x x (i : Int)) true := by
  intro d
  induction d with
  | zero =>
    intro i hi
    refine Ev.step (fun _ => laws_eqByteS.l0.eq_2 ..) ?_
    exact ev_ifn (by omega) (ev_some rfl)
  | succ d ih =>
    intro i hi
    refine Ev.step (fun _ => laws_eqByteS.l0.eq_2 ..) ?_
    refine ev_ifp (by omega) (ev_ifp (by omega) (ev_ifp (by omega) (ev_ifp rfl ?_)))
    simp only [wnext i (by omega)]
    exact ih (i + 1) (by omega)
theorem laws_eqByteS_ev (x : List Int) (hx : x.length ≤ 140737488355328) : Ev (fun k => laws_eqByteS.f k x x) true := by
  unfold laws_eqByteS.f
  exact ev_ifp rfl (laws_eqByteS_l0 x hx x.length 0 (by omega))

/-! laws_markByteS -/
theorem laws_markByteS_l0 : ∀ (rest pre : List Int) (a : Int), pre.length + rest.length ≤ 140737488355328 → 0 ≤ a → a + rest.length ≤ 4611686018427387904 →
    Ev (fun k => laws_markByteS.l0 k (pre ++ rest) a (pre.length : Int)) (a + rest.length, pre ++ marks a rest.length)
  | [], pre, a, h0, h1, h2 => by
    refine Ev.step (fun _ => laws_markByteS.l0.eq_2 ..) ?_
    exact ev_ifn (by simp) (ev_some (by simp [marks]))
  | c :: rest, pre, a, h0, h1, h2 => by
    rw [List.length_cons] at h0 h2
    refine Ev.step (fun _ => laws_markByteS.l0.eq_2 ..) ?_
    refine ev_ifp (by rw [List.length_append, List.length_cons]; omega) (ev_ifp (by omega) ?_)
    have e1 : (pre ++ c :: rest).set (pre.length : Int).toNat (a % 256) = (pre ++ [a % 256]) ++ rest := by
      rw [Int.toNat_natCast, List.set_append_right _ _ (Nat.le_refl _)]; simp
    have e2 : ((pre.length : Int)) + 1 = ((pre ++ [a % 256]).length : Int) := by simp
    rw [e1, w64 (n := a + 1) (by omega) (by omega), w64 (n := (pre.length : Int) + 1) (by omega) (by omega), e2]
    refine ev_to (laws_markByteS_l0 rest (pre ++ [a % 256]) (a + 1) (by simp; omega) (by omega) (by omega)) ?_
    simp only [marks, List.length_cons, List.append_assoc, List.singleton_append, Prod.mk.injEq, and_true]
    omega
theorem laws_markByteS_ev (x : List Int) (a : Int) (h0 : x.length ≤ 140737488355328) (h1 : 0 ≤ a) (h2 : a + x.length ≤ 4611686018427387904) : Ev (fun k => laws_markByteS.f k x a) (a + x.length, marks a x.length) :=
  laws_markByteS_l0 x [] a (by simpa using h0) h1 h2

/-! laws_heldByteS -/
theorem laws_heldByteS_l0 : ∀ (n : Nat) (pre : List Int) (a : Int), pre.length + n ≤ 140737488355328 → 0 ≤ a → a + n ≤ 4611686018427387904 →
    Ev (fun k => laws_heldByteS.l0 k (pre ++ marks a n) a (pre.length : Int)) (a + n)
  | 0, pre, a, h0, h1, h2 => by
    refine Ev.step (fun _ => laws_heldByteS.l0.eq_2 ..) ?_
    exact ev_ifn (by simp [marks]) (ev_some (by simp))
  | n + 1, pre, a, h0, h1, h2 => by
    refine Ev.step (fun _ => laws_heldByteS.l0.eq_2 ..) ?_
    rw [marks]
    refine ev_ifp (by rw [List.length_append, List.length_cons]; omega) (ev_ifp (by omega) (ev_ifp (rd_mid _ _ _) ?_))
    have e1 : pre ++ a % 256 :: marks (a + 1) n = (pre ++ [a % 256]) ++ marks (a + 1) n := by simp
    have e2 : ((pre.length : Int)) + 1 = ((pre ++ [a % 256]).length : Int) := by simp
    rw [e1, w64 (n := a + 1) (by omega) (by omega), w64 (n := (pre.length : Int) + 1) (by omega) (by omega), e2]
    exact ev_to (laws_heldByteS_l0 n (pre ++ [a % 256]) (a + 1) (by simp; omega) (by omega) (by omega)) (by omega)
theorem laws_heldByteS_ev (n : Nat) (a : Int) (h0 : n ≤ 140737488355328) (h1 : 0 ≤ a) (h2 : a + n ≤ 4611686018427387904) : Ev (fun k => laws_heldByteS.f k (marks a n) a) (a + n) :=
  laws_heldByteS_l0 n [] a (by simpa using h0) h1 h2

/-! spec_l1In -/
theorem spec_l1In_eq (a b c : Int) : spec_l1In.f a b c = some (decide (b ≤ a ∧ a ≤ c)) := by
  unfold spec_l1In.f
  by_cases h : a ≥ b
  · rw [if_pos h]; congr 1; simp; omega
  · rw [if_neg h]; congr 1; simp; omega

/-! spec_PutNum -/
theorem spec_PutNum_l0 : ∀ (f : Nat) (x : Int) (acc : List Int), 0 ≤ x → x < 128 ^ (f + 1) → x ≤ 16777215 → acc.length + f < 1000 → Ev (fun k => spec_PutNum.l0 k x acc) (acc ++ digs f x)
  | 0, x, acc, h0, h1, h2, h3 => by
    simp at h1
    refine Ev.step (fun _ => spec_PutNum.l0.eq_2 ..) ?_
    refine ev_ifn (by omega) (ev_ifp (by omega) (ev_some ?_))
    rw [digs, Int.emod_eq_of_lt h0 (by omega)]
  | f + 1, x, acc, h0, h1, h2, h3 => by
    refine Ev.step (fun _ => spec_PutNum.l0.eq_2 ..) ?_
    by_cases hc : x > 127
    · refine ev_ifp hc (ev_ifp (by omega) ?_)
      rw [digs, if_pos hc]
      have h4 : x / 128 < 128 ^ (f + 1) := Int.ediv_lt_of_lt_mul (by decide) (by rw [← Int.pow_succ]; exact h1)
      rw [tdiv_pos h0, tmod_pos h0, w64 (n := x / 128) (by omega) (by omega), w64 (n := x % 128 + 128) (by omega) (by omega), Int.emod_eq_of_lt (a := x % 128 + 128) (by omega) (by omega)]
      have := spec_PutNum_l0 f (x / 128) (acc ++ [x % 128 + 128]) (by omega) h4 (by omega) (by rw [List.length_append]; simp; omega)
      simpa using this
    · refine ev_ifn hc (ev_ifp (by omega) (ev_some ?_))
      rw [digs, if_neg hc, Int.emod_eq_of_lt h0 (by omega)]
theorem spec_PutNum_ev (n : Int) : Ev (fun k => spec_PutNum.f k n) (putNum n) := by
  unfold spec_PutNum.f putNum
  refine ev_call rfl (ev_call (spec_l1In_eq n 0 16777215) ?_)
  by_cases h : 0 ≤ n ∧ n ≤ 16777215
  · rw [if_pos h]
    refine ev_ifp (by simpa using h) ?_
    exact spec_PutNum_l0 3 n [] h.1 (by have : (128 : Int) ^ (3 + 1) = 268435456 := by decide
                                        omega) h.2 (by simp)
  · rw [if_neg h]
    exact ev_ifn (by simpa using h) (ev_some rfl)

/-! spec_PutText -/
theorem spec_PutText_ev (s : ByteArray) (hs : s.size ≤ 140737488355328) : Ev (fun k => spec_PutText.f k s) (putText s) := by
  unfold spec_PutText.f putText
  have hb := bytesOf_length s
  have hp := putNum_len (s.size : Int)
  by_cases h : (s.size : Int) > 200
  · rw [if_pos h]
    exact ev_ifp h (ev_some rfl)
  · rw [if_neg h]
    exact ev_ifn h (Ev.bind (spec_PutNum_ev _) (ev_ifp hs (ev_call rfl (ev_ifp (by omega) (ev_some rfl)))))

/-! impl_within -/
theorem impl_within_eq (a b c : Int) : impl_within.f a b c = some (decide (b ≤ a ∧ a ≤ c)) := by
  unfold impl_within.f
  by_cases h : a ≥ b
  · rw [if_pos h]; congr 1; simp; omega
  · rw [if_neg h]; congr 1; simp; omega

/-! impl_PutNum -/
theorem impl_PutNum_l0 : ∀ (f : Nat) (x : Int) (acc : List Int), 0 ≤ x → x < 128 ^ (f + 1) → x ≤ 16777215 → acc.length + f < 1000 → Ev (fun k => impl_PutNum.l0 k x acc) (acc ++ digs f x)
  | 0, x, acc, h0, h1, h2, h3 => by
    simp at h1
    refine Ev.step (fun _ => impl_PutNum.l0.eq_2 ..) ?_
    refine ev_ifn (by omega) (ev_ifp (by omega) (ev_some ?_))
    rw [digs, Int.emod_eq_of_lt h0 (by omega)]
  | f + 1, x, acc, h0, h1, h2, h3 => by
    refine Ev.step (fun _ => impl_PutNum.l0.eq_2 ..) ?_
    by_cases hc : x > 127
    · refine ev_ifp (by omega) (ev_ifp (by omega) ?_)
      rw [digs, if_pos hc]
      have h4 : x / 128 < 128 ^ (f + 1) := Int.ediv_lt_of_lt_mul (by decide) (by rw [← Int.pow_succ]; exact h1)
      rw [tdiv_pos h0, tmod_pos h0, w64 (n := x / 128) (by omega) (by omega), w64 (n := x % 128 + 128) (by omega) (by omega), Int.emod_eq_of_lt (a := x % 128 + 128) (by omega) (by omega)]
      have := impl_PutNum_l0 f (x / 128) (acc ++ [x % 128 + 128]) (by omega) h4 (by omega) (by rw [List.length_append]; simp; omega)
      simpa using this
    · refine ev_ifn (by omega) (ev_ifp (by omega) (ev_some ?_))
      rw [digs, if_neg hc, Int.emod_eq_of_lt h0 (by omega)]
theorem impl_PutNum_ev (n : Int) : Ev (fun k => impl_PutNum.f k n) (putNum n) := by
  unfold impl_PutNum.f putNum
  refine ev_call (impl_within_eq n 0 16777215) ?_
  by_cases h : 0 ≤ n ∧ n ≤ 16777215
  · rw [if_pos h]
    refine ev_ifp (by simpa using h) ?_
    exact impl_PutNum_l0 3 n [] h.1 (by have : (128 : Int) ^ (3 + 1) = 268435456 := by decide
                                        omega) h.2 (by simp)
  · rw [if_neg h]
    exact ev_ifn (by simpa using h) (ev_some rfl)

/-! impl_join -/
theorem impl_join_l0 (ls : List (List Int)) (hn : ls.length ≤ 1000) : ∀ (rest pre : List (List Int)) (acc : List Int), ls = pre ++ rest → acc.length + rest.flatten.length < 140737488355328 → Ev (fun k => impl_join.l0 k acc ls (ls.length : Int) (pre.length : Int)) (acc ++ rest.flatten)
  | [], pre, acc, he, h0 => by
    refine Ev.step (fun _ => impl_join.l0.eq_2 ..) ?_
    exact ev_ifn (by rw [he]; simp) (ev_some (by simp))
  | x :: rest, pre, acc, he, h0 => by
    have hl : ls.length = pre.length + (rest.length + 1) := by rw [he]; simp
    rw [List.flatten_cons, List.length_append] at h0
    have hr : rd_L1 ls (pre.length : Int) = x := by
      unfold rd_L1; rw [he]; simp
    refine Ev.step (fun _ => impl_join.l0.eq_2 ..) ?_
    rw [hr]
    refine ev_ifp (by omega) (ev_ifp (by omega) (ev_ifp (by omega) (ev_ifp (by omega) ?_)))
    have e2 : ((pre.length : Int)) + 1 = ((pre ++ [x]).length : Int) := by simp
    rw [w64 (n := (pre.length : Int) + 1) (by omega) (by omega), e2]
    refine ev_to (impl_join_l0 ls hn rest (pre ++ [x]) (acc ++ x) (by rw [he]; simp) (by rw [List.length_append]; omega)) ?_
    simp
theorem impl_join_ev (ls : List (List Int)) (hn : ls.length ≤ 1000) (h : ls.flatten.length < 140737488355328) : Ev (fun k => impl_join.f k ls) ls.flatten :=
  impl_join_l0 ls hn ls [] [] rfl (by simpa using h)

/-! impl_PutText -/
theorem impl_PutText_ev (s : ByteArray) (hs : s.size ≤ 140737488355328) : Ev (fun k => impl_PutText.f k s) (putText s) := by
  unfold impl_PutText.f putText
  have hb := bytesOf_length s
  have hp := putNum_len (s.size : Int)
  by_cases h : (s.size : Int) > 200
  · rw [if_pos h]
    exact ev_ifp h (ev_some rfl)
  · rw [if_neg h]
    exact ev_ifn h (Ev.bind (impl_PutNum_ev _) (ev_ifp hs (Ev.bind (impl_join_ev _ (by simp) (by simp; omega)) (ev_some (by simp)))))

theorem FnExactPutText (s : ByteArray) (hs : s.size ≤ maxLen) : ∃ k, laws_FnExactPutText.f k s = some true := by
  refine Ev.rounds (r := true) ?_
  unfold laws_FnExactPutText.f
  refine ev_if (fun _ => ev_some rfl) (fun h => ?_)
  have hg := putText_len s
  repeat' first
    | exact ev_some rfl
    | refine Ev.bind (laws_eqByteS_ev _ (by omega)) ?_
    | refine Ev.bind (laws_markByteS_ev _ _ (by omega) (by decide) (by omega)) ?_
    | refine Ev.bind (laws_heldByteS_ev _ _ (by omega) (by decide) (by omega)) ?_
    | refine Ev.bind (spec_PutText_ev _ (by omega)) ?_
    | refine Ev.bind (impl_PutText_ev _ (by omega)) ?_
    | refine ev_ifp (by with_reducible rfl) ?_
    | refine ev_ifn (by simp only [bne_self_eq_false, Bool.false_eq_true, not_false_eq_true]) ?_
    | refine ev_ifp (by first | decide | omega) ?_
    | refine ev_ifn (by first | decide | omega) ?_

end Go.Proofs.Ytcableidjknlfaa.Pure
