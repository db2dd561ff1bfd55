/- The pure statement of FnExactPutWord: at every argument the law answers true. No condition. -/
import Derived.Test.YtcableidjknlfaaPFnExactPutWordx1
import Derived.Test.YtcableidjknlfaaLib1
import Derived.Test.YtcableidjknlfaaLib2
set_option linter.unusedVariables false
set_option linter.unusedSimpArgs false
namespace Go.Proofs.Ytcableidjknlfaa.Pure
open Go.RowKit Go.Proofs.Ytcableidjknlfaa.PFnExactPutWord Go.Proofs.YtcableidjknlfaaW.PrintWords Go.Proofs.YtcableidjknlfaaW.PrintLast Go.Proofs.YtcableidjknlfaaW.PrintMore Go.Proofs.YtcableidjknlfaaLib

/-! spec_l1In -/
theorem spec_l1In_eq (a b c : Int) : spec_l1In.f a b c = some (decide (b ≤ a ∧ a ≤ c)) := by
  unfold spec_l1In.f
  by_cases h : a ≥ b
  · rw [if_pos h]; congr 1; simp; omega
  · rw [if_neg h]; congr 1; simp; omega

/-! spec_l1Word -/
theorem spec_l1Word_eq (n : Int) : spec_l1Word.f n = some (decide (-2147483648 ≤ n ∧ n ≤ 2147483647)) := by
  unfold spec_l1Word.f
  rw [spec_l1In_eq]; rfl

/-! spec_PutWord -/
theorem spec_PutWord_eq (n : Int) : spec_PutWord.f n = some (putWord n) := by
  unfold spec_PutWord.f putWord
  rw [spec_l1Word_eq]
  by_cases h : -2147483648 ≤ n ∧ n ≤ 2147483647
  · simp [h, four]
  · rw [if_neg h]; simp [h]

/-! impl_within -/
theorem impl_within_eq (a b c : Int) : impl_within.f a b c = some (decide (b ≤ a ∧ a ≤ c)) := by
  unfold impl_within.f
  by_cases h : a ≥ b
  · rw [if_pos h]; congr 1; simp; omega
  · rw [if_neg h]; congr 1; simp; omega

/-! impl_isWord -/
theorem impl_isWord_eq (n : Int) : impl_isWord.f n = some (decide (-2147483648 ≤ n ∧ n ≤ 2147483647)) := by
  unfold impl_isWord.f
  rw [impl_within_eq]; rfl

/-! impl_putFour -/
theorem and255 (n : Int) : bits .and .i64 n 255 = n % 256 := by
  have h := bits_and_mask n 8 (by decide)
  simpa using h
theorem impl_putFour_eq (n : Int) : impl_putFour.f n = some (four n) := by
  unfold impl_putFour.f four
  simp only [and255]
  congr 2
  · omega
  · congr 1
    · omega
    · congr 1
      · omega
      · congr 1; omega

/-! impl_PutWord -/
theorem impl_PutWord_eq (n : Int) : impl_PutWord.f n = some (putWord n) := by
  unfold impl_PutWord.f putWord
  rw [impl_isWord_eq]
  by_cases h : -2147483648 ≤ n ∧ n ≤ 2147483647
  · simp [h, impl_putFour_eq]
  · rw [if_neg h]; simp [h]

/-! laws_eqByteS -/
theorem laws_eqByteS_l0 (x : List Int) (hx : x.length ≤ 140737488355328) : ∀ (d i : Nat), i + d = x.length → Ev (fun k => laws_eqByteS.l0 k x x (i : Int)) true := by
  intro d
  induction d with
  | zero =>
    intro i hi
    refine Ev.step (fun _ => laws_eqByteS.l0.eq_2 ..) ?_
    exact ev_ifn (by omega) (ev_some rfl)
  | succ d ih =>
    intro i hi
    refine Ev.step (fun _ => laws_eqByteS.l0.eq_2 ..) ?_
    refine ev_ifp (by omega) (ev_ifp (by omega) (ev_ifp (by omega) (ev_ifp rfl ?_)))
    simp only [wnext i (by omega)]
    exact ih (i + 1) (by omega)
theorem laws_eqByteS_ev (x : List Int) (hx : x.length ≤ 140737488355328) : Ev (fun k => laws_eqByteS.f k x x) true := by
  unfold laws_eqByteS.f
  exact ev_ifp rfl (laws_eqByteS_l0 x hx x.length 0 (by omega))

/-! laws_markByteS -/
theorem laws_markByteS_l0 : ∀ (rest pre : List Int) (a : Int), pre.length + rest.length ≤ 140737488355328 → 0 ≤ a → a + rest.length ≤ 4611686018427387904 →
    Ev (fun k => laws_markByteS.l0 k (pre ++ rest) a (pre.length : Int)) (a + rest.length, pre ++ marks a rest.length)
  | [], pre, a, h0, h1, h2 => by
    refine Ev.step (fun _ => laws_markByteS.l0.eq_2 ..) ?_
    exact ev_ifn (by simp) (ev_some (by simp [marks]))
  | c :: rest, pre, a, h0, h1, h2 => by
    rw [List.length_cons] at h0 h2
    refine Ev.step (fun _ => laws_markByteS.l0.eq_2 ..) ?_
    refine ev_ifp (by rw [List.length_append, List.length_cons]; omega) (ev_ifp (by omega) ?_)
    have e1 : (pre ++ c :: rest).set (pre.length : Int).toNat (a % 256) = (pre ++ [a % 256]) ++ rest := by
      rw [Int.toNat_natCast, List.set_append_right _ _ (Nat.le_refl _)]; simp
    have e2 : ((pre.length : Int)) + 1 = ((pre ++ [a % 256]).length : Int) := by simp
    rw [e1, w64 (n := a + 1) (by omega) (by omega), w64 (n := (pre.length : Int) + 1) (by omega) (by omega), e2]
    refine ev_to (laws_markByteS_l0 rest (pre ++ [a % 256]) (a + 1) (by simp; omega) (by omega) (by omega)) ?_
    simp only [marks, List.length_cons, List.append_assoc, List.singleton_append, Prod.mk.injEq, and_true]
    omega
theorem laws_markByteS_ev (x : List Int) (a : Int) (h0 : x.length ≤ 140737488355328) (h1 : 0 ≤ a) (h2 : a + x.length ≤ 4611686018427387904) : Ev (fun k => laws_markByteS.f k x a) (a + x.length, marks a x.length) :=
  laws_markByteS_l0 x [] a (by simpa using h0) h1 h2

/-! laws_heldByteS -/
theorem laws_heldByteS_l0 : ∀ (n : Nat) (pre : List Int) (a : Int), pre.length + n ≤ 140737488355328 → 0 ≤ a → a + n ≤ 4611686018427387904 →
    Ev (fun k => laws_heldByteS.l0 k (pre ++ marks a n) a (pre.length : Int)) (a + n)
  | 0, pre, a, h0, h1, h2 => by
    refine Ev.step (fun _ => laws_heldByteS.l0.eq_2 ..) ?_
    exact ev_ifn (by simp [marks]) (ev_some (by simp))
  | n + 1, pre, a, h0, h1, h2 => by
    refine Ev.step (fun _ => laws_heldByteS.l0.eq_2 ..) ?_
    rw [marks]
    refine ev_ifp (by rw [List.length_append, List.length_cons]; omega) (ev_ifp (by omega) (ev_ifp (rd_mid _ _ _) ?_))
    have e1 : pre ++ a % 256 :: marks (a + 1) n = (pre ++ [a % 256]) ++ marks (a + 1) n := by simp
    have e2 : ((pre.length : Int)) + 1 = ((pre ++ [a % 256]).length : Int) := by simp
    rw [e1, w64 (n := a + 1) (by omega) (by omega), w64 (n := (pre.length : Int) + 1) (by omega) (by omega), e2]
    exact ev_to (laws_heldByteS_l0 n (pre ++ [a % 256]) (a + 1) (by simp; omega) (by omega) (by omega)) (by omega)
theorem laws_heldByteS_ev (n : Nat) (a : Int) (h0 : n ≤ 140737488355328) (h1 : 0 ≤ a) (h2 : a + n ≤ 4611686018427387904) : Ev (fun k => laws_heldByteS.f k (marks a n) a) (a + n) :=
  laws_heldByteS_l0 n [] a (by simpa using h0) h1 h2

theorem FnExactPutWord (n : Int) (_ : (Lit.int .i64 n).wf = true) : ∃ k, laws_FnExactPutWord.f k n = some true := by
  have hl : (putWord n).length ≤ 4 := by unfold putWord four; split <;> simp
  refine Ev.rounds (r := true) ?_
  unfold laws_FnExactPutWord.f
  repeat' first
    | exact ev_some rfl
    | refine Ev.bind (laws_eqByteS_ev _ (by omega)) ?_
    | refine Ev.bind (laws_markByteS_ev _ _ (by omega) (by decide) (by omega)) ?_
    | refine Ev.bind (laws_heldByteS_ev _ _ (by omega) (by decide) (by omega)) ?_
    | refine ev_call (spec_PutWord_eq _) ?_
    | refine ev_call (impl_PutWord_eq _) ?_
    | refine ev_ifp (by with_reducible rfl) ?_
    | refine ev_ifp (by first | decide | omega | (simp; done)) ?_
    | refine ev_ifn (by first | decide | omega | (simp; done) | (simp; omega)) ?_

end Go.Proofs.Ytcableidjknlfaa.Pure
