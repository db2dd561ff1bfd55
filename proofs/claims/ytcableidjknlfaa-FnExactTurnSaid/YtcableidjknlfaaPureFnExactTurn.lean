/- The pure statement of FnExactTurn: at every argument the law answers true. No condition. -/
import Derived.Test.YtcableidjknlfaaPFnExactTurnx2
import Derived.Test.YtcableidjknlfaaLib1
import Derived.Test.YtcableidjknlfaaLib2
set_option linter.unusedVariables false
set_option linter.unusedSimpArgs false
namespace Go.Proofs.Ytcableidjknlfaa.Pure
open Go.RowKit Go.Proofs.Ytcableidjknlfaa.PFnExactTurn Go.Proofs.YtcableidjknlfaaW.PrintWords Go.Proofs.YtcableidjknlfaaW.PrintLast Go.Proofs.YtcableidjknlfaaW.PrintMore Go.Proofs.YtcableidjknlfaaLib

/-! laws_eqByteS -/
theorem laws_eqByteS_l0 (x : List Int) (hx : x.length ≤ 140737488355328) : ∀ (d i : Nat), i + d = x.length → Ev (fun k => laws_eqByteS.l0 k x x (i : Int)) true := by
  intro d
  induction d with
  | zero =>
    intro i hi
    refine Ev.step (fun _ => laws_eqByteS.l0.eq_2 ..) ?_
    exact ev_ifn (by omega) (ev_some rfl)
  | succ d ih =>
    intro i hi
    refine Ev.step (fun _ => laws_eqByteS.l0.eq_2 ..) ?_
    refine ev_ifp (by omega) (ev_ifp (by omega) (ev_ifp (by omega) (ev_ifp rfl ?_)))
    simp only [wnext i (by omega)]
    exact ih (i + 1) (by omega)
theorem laws_eqByteS_ev (x : List Int) (hx : x.length ≤ 140737488355328) : Ev (fun k => laws_eqByteS.f k x x) true := by
  unfold laws_eqByteS.f
  exact ev_ifp rfl (laws_eqByteS_l0 x hx x.length 0 (by omega))

/-! laws_markByteS -/
theorem laws_markByteS_l0 : ∀ (rest pre : List Int) (a : Int), pre.length + rest.length ≤ 140737488355328 → 0 ≤ a → a + rest.length ≤ 4611686018427387904 →
    Ev (fun k => laws_markByteS.l0 k (pre ++ rest) a (pre.length : Int)) (a + rest.length, pre ++ marks a rest.length)
  | [], pre, a, h0, h1, h2 => by
    refine Ev.step (fun _ => laws_markByteS.l0.eq_2 ..) ?_
    exact ev_ifn (by simp) (ev_some (by simp [marks]))
  | c :: rest, pre, a, h0, h1, h2 => by
    rw [List.length_cons] at h0 h2
    refine Ev.step (fun _ => laws_markByteS.l0.eq_2 ..) ?_
    refine ev_ifp (by rw [List.length_append, List.length_cons]; omega) (ev_ifp (by omega) ?_)
    have e1 : (pre ++ c :: rest).set (pre.length : Int).toNat (a % 256) = (pre ++ [a % 256]) ++ rest := by
      rw [Int.toNat_natCast, List.set_append_right _ _ (Nat.le_refl _)]; simp
    have e2 : ((pre.length : Int)) + 1 = ((pre ++ [a % 256]).length : Int) := by simp
    rw [e1, w64 (n := a + 1) (by omega) (by omega), w64 (n := (pre.length : Int) + 1) (by omega) (by omega), e2]
    refine ev_to (laws_markByteS_l0 rest (pre ++ [a % 256]) (a + 1) (by simp; omega) (by omega) (by omega)) ?_
    simp only [marks, List.length_cons, List.append_assoc, List.singleton_append, Prod.mk.injEq, and_true]
    omega
theorem laws_markByteS_ev (x : List Int) (a : Int) (h0 : x.length ≤ 140737488355328) (h1 : 0 ≤ a) (h2 : a + x.length ≤ 4611686018427387904) : Ev (fun k => laws_markByteS.f k x a) (a + x.length, marks a x.length) :=
  laws_markByteS_l0 x [] a (by simpa using h0) h1 h2

/-! laws_heldByteS -/
theorem laws_heldByteS_l0 : ∀ (n : Nat) (pre : List Int) (a : Int), pre.length + n ≤ 140737488355328 → 0 ≤ a → a + n ≤ 4611686018427387904 →
    Ev (fun k => laws_heldByteS.l0 k (pre ++ marks a n) a (pre.length : Int)) (a + n)
  | 0, pre, a, h0, h1, h2 => by
    refine Ev.step (fun _ => laws_heldByteS.l0.eq_2 ..) ?_
    exact ev_ifn (by simp [marks]) (ev_some (by simp))
  | n + 1, pre, a, h0, h1, h2 => by
    refine Ev.step (fun _ => laws_heldByteS.l0.eq_2 ..) ?_
    rw [marks]
    refine ev_ifp (by rw [List.length_append, List.length_cons]; omega) (ev_ifp (by omega) (ev_ifp (rd_mid _ _ _) ?_))
    have e1 : pre ++ a % 256 :: marks (a + 1) n = (pre ++ [a % 256]) ++ marks (a + 1) n := by simp
    have e2 : ((pre.length : Int)) + 1 = ((pre ++ [a % 256]).length : Int) := by simp
    rw [e1, w64 (n := a + 1) (by omega) (by omega), w64 (n := (pre.length : Int) + 1) (by omega) (by omega), e2]
    exact ev_to (laws_heldByteS_l0 n (pre ++ [a % 256]) (a + 1) (by simp; omega) (by omega) (by omega)) (by omega)
theorem laws_heldByteS_ev (n : Nat) (a : Int) (h0 : n ≤ 140737488355328) (h1 : 0 ≤ a) (h2 : a + n ≤ 4611686018427387904) : Ev (fun k => laws_heldByteS.f k (marks a n) a) (a + n) :=
  laws_heldByteS_l0 n [] a (by simpa using h0) h1 h2

/-! laws_toByteS -/
theorem laws_toByteS_l0 (x : List Int) (hx : x.length ≤ 140737488355328) : ∀ (d : Nat) (acc : List Int) (i : Nat), i + d = x.length → acc.length = x.length → acc.take i = x.take i → Ev (fun k => laws_toByteS.l0 k x acc (i : Int)) x := by
  intro d
  induction d with
  | zero =>
    intro acc i hi hl ht
    refine Ev.step (fun _ => laws_toByteS.l0.eq_2 ..) ?_
    refine ev_ifn (by omega) (ev_some ?_)
    have h1 : acc.take i = acc := List.take_of_length_le (by omega)
    have h2 : x.take i = x := List.take_of_length_le (by omega)
    rw [h1, h2] at ht
    exact ht
  | succ d ih =>
    intro acc i hi hl ht
    refine Ev.step (fun _ => laws_toByteS.l0.eq_2 ..) ?_
    refine ev_ifp (by omega) (ev_ifp (by omega) (ev_ifp (by omega) ?_))
    simp only [wnext i (by omega)]
    refine ih _ (i + 1) (by omega) (by rw [List.length_set]; exact hl) ?_
    rw [rd_nat x i (by omega), Int.toNat_natCast]
    apply List.ext_getElem?
    intro j
    rw [List.getElem?_take, List.getElem?_take]
    by_cases hj : j < i + 1
    · rw [if_pos hj, if_pos hj]
      by_cases hji : j = i
      · subst hji
        rw [List.getElem?_set_self (by omega), List.getElem?_eq_getElem (by omega)]
      · rw [List.getElem?_set_ne (by omega)]
        have := congrArg (fun l => l[j]?) ht
        simp only [List.getElem?_take] at this
        rwa [if_pos (by omega), if_pos (by omega)] at this
    · rw [if_neg hj, if_neg hj]
theorem laws_toByteS_ev (x : List Int) (hx : x.length ≤ 140737488355328) : Ev (fun k => laws_toByteS.f k x) x := by
  unfold laws_toByteS.f
  refine ev_ifp (by omega) (ev_ifp (by omega) ?_)
  exact laws_toByteS_l0 x hx x.length _ 0 (by omega) (by simp) (by simp)

/-! spec_Turn -/
theorem spec_Turn_eq (x : List Int) (b : Int) (hl : x.length ≤ 100000000) (hb : I64 b) : spec_Turn.f x b = some (turn x b) := by
  unfold spec_Turn.f
  unfold I64 at hb
  simp only [Option.bind_some, List.nil_append, List.length_nil, Nat.zero_add]
  rw [if_pos (by omega)]
  by_cases h0 : b ≥ 0
  · rw [if_pos h0, tdiv_pos h0, tmod_pos h0, w64 (n := b / 8) (by omega) (by omega)]
    by_cases h1 : b / 8 < (x.length : Int)
    · rw [if_pos h1, if_pos (by omega), if_pos h1, if_pos (by omega)]
      unfold turn
      rw [if_pos ⟨h0, h1⟩]
    · rw [if_neg h1]
      unfold turn
      rw [if_neg (fun h => h1 h.2)]
  · rw [if_neg h0]
    unfold turn
    rw [if_neg (fun h => h0 h.1)]

/-! impl_join -/
theorem impl_join_l0 (ls : List (List Int)) (hn : ls.length ≤ 1000) : ∀ (rest pre : List (List Int)) (acc : List Int), ls = pre ++ rest → acc.length + rest.flatten.length < 140737488355328 → Ev (fun k => impl_join.l0 k acc ls (ls.length : Int) (pre.length : Int)) (acc ++ rest.flatten)
  | [], pre, acc, he, h0 => by
    refine Ev.step (fun _ => impl_join.l0.eq_2 ..) ?_
    exact ev_ifn (by rw [he]; simp) (ev_some (by simp))
  | x :: rest, pre, acc, he, h0 => by
    have hl : ls.length = pre.length + (rest.length + 1) := by rw [he]; simp
    rw [List.flatten_cons, List.length_append] at h0
    have hr : rd_L1 ls (pre.length : Int) = x := by
      unfold rd_L1; rw [he]; simp
    refine Ev.step (fun _ => impl_join.l0.eq_2 ..) ?_
    rw [hr]
    refine ev_ifp (by omega) (ev_ifp (by omega) (ev_ifp (by omega) (ev_ifp (by omega) ?_)))
    have e2 : ((pre.length : Int)) + 1 = ((pre ++ [x]).length : Int) := by simp
    rw [w64 (n := (pre.length : Int) + 1) (by omega) (by omega), e2]
    refine ev_to (impl_join_l0 ls hn rest (pre ++ [x]) (acc ++ x) (by rw [he]; simp) (by rw [List.length_append]; omega)) ?_
    simp
theorem impl_join_ev (ls : List (List Int)) (hn : ls.length ≤ 1000) (h : ls.flatten.length < 140737488355328) : Ev (fun k => impl_join.f k ls) ls.flatten :=
  impl_join_l0 ls hn ls [] [] rfl (by simpa using h)

/-! impl_Turn -/
theorem impl_Turn_ev (x : List Int) (b : Int) (hl : x.length ≤ 100000000) (hb : I64 b) : Ev (fun k => impl_Turn.f k x b) (turn x b) := by
  unfold impl_Turn.f
  unfold I64 at hb
  refine Ev.bind (impl_join_ev [x] (by simp) (by simp; omega)) ?_
  simp only [List.flatten_cons, List.flatten_nil, List.append_nil]
  by_cases h0 : b ≥ 0
  · rw [tdiv_pos h0, tmod_pos h0, w64 (n := b / 8) (by omega) (by omega)]
    refine ev_ifp h0 ?_
    by_cases h1 : b / 8 < (x.length : Int)
    · refine ev_ifp h1 (ev_ifp (by omega) (ev_ifp h1 (ev_ifp (by omega) (ev_some ?_))))
      unfold turn
      rw [if_pos ⟨h0, h1⟩]
    · refine ev_ifn h1 (ev_some ?_)
      unfold turn
      rw [if_neg (fun h => h1 h.2)]
  · refine ev_ifn h0 (ev_some ?_)
    unfold turn
    rw [if_neg (fun h => h0 h.1)]

theorem FnExactTurn (l : List Int) (b : Int) (h : l.length ≤ maxLen ∧ ∀ x ∈ l, (Lit.int .u8 x).wf = true) (hb64 : (Lit.int .i64 b).wf = true) : ∃ k, laws_FnExactTurn.f k l b = some true := by
  obtain ⟨hs, hb⟩ := h
  unfold maxLen at hs
  have hB := bs_of hb
  refine Ev.rounds (r := true) ?_
  unfold laws_FnExactTurn.f
  refine ev_if (fun _ => ev_some rfl) (fun h => ?_)
  have hg : (turn l b).length ≤ 100000000 := by rw [turn_length]; omega
  repeat' first
    | exact ev_some rfl
    | refine Ev.bind (laws_toByteS_ev _ (by omega)) ?_
    | refine Ev.bind (laws_eqByteS_ev _ (by omega)) ?_
    | refine Ev.bind (laws_markByteS_ev _ _ (by omega) (by decide) (by omega)) ?_
    | refine Ev.bind (laws_heldByteS_ev _ _ (by omega) (by decide) (by omega)) ?_
    | refine ev_call (spec_Turn_eq _ _ (by omega) (i64_of hb64)) ?_
    | refine Ev.bind (impl_Turn_ev _ _ (by omega) (i64_of hb64)) ?_
    | refine ev_ifp (by with_reducible rfl) ?_
    | refine ev_ifp (by first | decide | omega) ?_
    | refine ev_ifn (by first | decide | omega) ?_
    | refine Ev.step (fun _ => laws_FnExactTurn.j0.eq_2 ..) ?_

end Go.Proofs.Ytcableidjknlfaa.Pure
