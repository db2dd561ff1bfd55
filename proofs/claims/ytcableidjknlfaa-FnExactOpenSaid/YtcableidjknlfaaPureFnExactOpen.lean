/- The pure statement of FnExactOpen: at every argument the law answers true. No condition. -/
import Derived.Test.YtcableidjknlfaaMFnExactOpenx4
import Derived.Test.YtcableidjknlfaaLib1
import Derived.Test.YtcableidjknlfaaLib2
set_option linter.unusedVariables false
set_option linter.unusedSimpArgs false
namespace Go.Proofs.Ytcableidjknlfaa.Pure
open Go.RowKit Go.Proofs.Ytcableidjknlfaa.MFnExactOpen Go.Proofs.YtcableidjknlfaaW.PrintWords Go.Proofs.YtcableidjknlfaaW.PrintLast Go.Proofs.YtcableidjknlfaaW.PrintMore Go.Proofs.YtcableidjknlfaaLib

/-! laws_eqByteS -/
theorem laws_eqByteS_l0 (x : List Int) (hx : x.length ≤ 140737488355328) : ∀ (d i : Nat), i + d = x.length → Ev (fun k => laws_eqByteS.l0 k x x (i : Int)) true := by
  intro d
  induction d with
  | zero =>
    intro i hi
    refine Ev.step (fun _ => laws_eqByteS.l0.eq_2 ..) ?_
    exact ev_ifn (by omega) (ev_some rfl)
  | succ d ih =>
    intro i hi
    refine Ev.step (fun _ => laws_eqByteS.l0.eq_2 ..) ?_
    refine ev_ifp (by omega) (ev_ifp (by omega) (ev_ifp (by omega) (ev_ifp rfl ?_)))
    simp only [wnext i (by omega)]
    exact ih (i + 1) (by omega)
theorem laws_eqByteS_ev (x : List Int) (hx : x.length ≤ 140737488355328) : Ev (fun k => laws_eqByteS.f k x x) true := by
  unfold laws_eqByteS.f
  exact ev_ifp rfl (laws_eqByteS_l0 x hx x.length 0 (by omega))

/-! laws_markByteS -/
theorem laws_markByteS_l0 : ∀ (rest pre : List Int) (a : Int), pre.length + rest.length ≤ 140737488355328 → 0 ≤ a → a + rest.length ≤ 4611686018427387904 →
    Ev (fun k => laws_markByteS.l0 k (pre ++ rest) a (pre.length : Int)) (a + rest.length, pre ++ marks a rest.length)
  | [], pre, a, h0, h1, h2 => by
    refine Ev.step (fun _ => laws_markByteS.l0.eq_2 ..) ?_
    exact ev_ifn (by simp) (ev_some (by simp [marks]))
  | c :: rest, pre, a, h0, h1, h2 => by
    rw [List.length_cons] at h0 h2
    refine Ev.step (fun _ => laws_markByteS.l0.eq_2 ..) ?_
    refine ev_ifp (by rw [List.length_append, List.length_cons]; omega) (ev_ifp (by omega) ?_)
    have e1 : (pre ++ c :: rest).set (pre.length : Int).toNat (a % 256) = (pre ++ [a % 256]) ++ rest := by
      rw [Int.toNat_natCast, List.set_append_right _ _ (Nat.le_refl _)]; simp
    have e2 : ((pre.length : Int)) + 1 = ((pre ++ [a % 256]).length : Int) := by simp
    rw [e1, w64 (n := a + 1) (by omega) (by omega), w64 (n := (pre.length : Int) + 1) (by omega) (by omega), e2]
    refine ev_to (laws_markByteS_l0 rest (pre ++ [a % 256]) (a + 1) (by simp; omega) (by omega) (by omega)) ?_
    simp only [marks, List.length_cons, List.append_assoc, List.singleton_append, Prod.mk.injEq, and_true]
    omega
theorem laws_markByteS_ev (x : List Int) (a : Int) (h0 : x.length ≤ 140737488355328) (h1 : 0 ≤ a) (h2 : a + x.length ≤ 4611686018427387904) : Ev (fun k => laws_markByteS.f k x a) (a + x.length, marks a x.length) :=
  laws_markByteS_l0 x [] a (by simpa using h0) h1 h2

/-! laws_heldByteS -/
theorem laws_heldByteS_l0 : ∀ (n : Nat) (pre : List Int) (a : Int), pre.length + n ≤ 140737488355328 → 0 ≤ a → a + n ≤ 4611686018427387904 →
    Ev (fun k => laws_heldByteS.l0 k (pre ++ marks a n) a (pre.length : Int)) (a + n)
  | 0, pre, a, h0, h1, h2 => by
    refine Ev.step (fun _ => laws_heldByteS.l0.eq_2 ..) ?_
    exact ev_ifn (by simp [marks]) (ev_some (by simp))
  | n + 1, pre, a, h0, h1, h2 => by
    refine Ev.step (fun _ => laws_heldByteS.l0.eq_2 ..) ?_
    rw [marks]
    refine ev_ifp (by rw [List.length_append, List.length_cons]; omega) (ev_ifp (by omega) (ev_ifp (rd_mid _ _ _) ?_))
    have e1 : pre ++ a % 256 :: marks (a + 1) n = (pre ++ [a % 256]) ++ marks (a + 1) n := by simp
    have e2 : ((pre.length : Int)) + 1 = ((pre ++ [a % 256]).length : Int) := by simp
    rw [e1, w64 (n := a + 1) (by omega) (by omega), w64 (n := (pre.length : Int) + 1) (by omega) (by omega), e2]
    exact ev_to (laws_heldByteS_l0 n (pre ++ [a % 256]) (a + 1) (by simp; omega) (by omega) (by omega)) (by omega)
theorem laws_heldByteS_ev (n : Nat) (a : Int) (h0 : n ≤ 140737488355328) (h1 : 0 ≤ a) (h2 : a + n ≤ 4611686018427387904) : Ev (fun k => laws_heldByteS.f k (marks a n) a) (a + n) :=
  laws_heldByteS_l0 n [] a (by simpa using h0) h1 h2

/-! laws_toByteS -/
theorem laws_toByteS_l0 (x : List Int) (hx : x.length ≤ 140737488355328) : ∀ (d : Nat) (acc : List Int) (i : Nat), i + d = x.length → acc.length = x.length → acc.take i = x.take i → Ev (fun k => laws_toByteS.l0 k x acc (i : Int)) x := by
  intro d
  induction d with
  | zero =>
    intro acc i hi hl ht
    refine Ev.step (fun _ => laws_toByteS.l0.eq_2 ..) ?_
    refine ev_ifn (by omega) (ev_some ?_)
    have h1 : acc.take i = acc := List.take_of_length_le (by omega)
    have h2 : x.take i = x := List.take_of_length_le (by omega)
    rw [h1, h2] at ht
    exact ht
  | succ d ih =>
    intro acc i hi hl ht
    refine Ev.step (fun _ => laws_toByteS.l0.eq_2 ..) ?_
    refine ev_ifp (by omega) (ev_ifp (by omega) (ev_ifp (by omega) ?_))
    simp only [wnext i (by omega)]
    refine ih _ (i + 1) (by omega) (by rw [List.length_set]; exact hl) ?_
    rw [rd_nat x i (by omega), Int.toNat_natCast]
    apply List.ext_getElem?
    intro j
    rw [List.getElem?_take, List.getElem?_take]
    by_cases hj : j < i + 1
    · rw [if_pos hj, if_pos hj]
      by_cases hji : j = i
      · subst hji
        rw [List.getElem?_set_self (by omega), List.getElem?_eq_getElem (by omega)]
      · rw [List.getElem?_set_ne (by omega)]
        have := congrArg (fun l => l[j]?) ht
        simp only [List.getElem?_take] at this
        rwa [if_pos (by omega), if_pos (by omega)] at this
    · rw [if_neg hj, if_neg hj]
theorem laws_toByteS_ev (x : List Int) (hx : x.length ≤ 140737488355328) : Ev (fun k => laws_toByteS.f k x) x := by
  unfold laws_toByteS.f
  refine ev_ifp (by omega) (ev_ifp (by omega) ?_)
  exact laws_toByteS_l0 x hx x.length _ 0 (by omega) (by simp) (by simp)

/-! spec_Check -/
theorem spec_Check_l0 (x : List Int) (hx : Bs x) (hl : x.length ≤ 140737488355328) : ∀ (rest pre : List Int) (a b : Int), x = pre ++ rest → 0 ≤ a → a < 65521 → 0 ≤ b → b < 65521 → Ev (fun k => spec_Check.l0 k x a b (pre.length : Int)) (chk rest a b) := by
  intro rest
  induction rest with
  | nil =>
    intro pre a b he ha ha' hb hb'
    have hn : x.length = pre.length := by rw [he]; simp
    refine Ev.step (fun _ => spec_Check.l0.eq_2 ..) ?_
    refine ev_ifn (by omega) (ev_some ?_)
    rw [w64 (n := b * 65536) (by omega) (by omega), w64 (by omega) (by omega)]; rfl
  | cons c rest ih =>
    intro pre a b he ha ha' hb hb'
    have hn : x.length = pre.length + (rest.length + 1) := by rw [he]; simp
    have hc := hx c (by rw [he]; simp)
    refine Ev.step (fun _ => spec_Check.l0.eq_2 ..) ?_
    refine ev_ifp (by omega) (ev_ifp (by omega) ?_)
    have hr : rd x (pre.length : Int) = c := by rw [he]; exact rd_mid _ _ _
    simp only [hr, w64 (n := c) (by omega) (by omega), w64 (n := a + c) (by omega) (by omega), tmod_pos (n := a + c) (m := 65521) (by omega)]
    rw [w64 (n := b + (a + c) % 65521) (by omega) (by omega), tmod_pos (n := b + (a + c) % 65521) (m := 65521) (by omega)]
    simp only [wnext pre.length (by omega)]
    have := ih (pre ++ [c]) ((a + c) % 65521) ((b + (a + c) % 65521) % 65521) (by rw [he]; simp) (by omega) (by omega) (by omega) (by omega)
    simpa [chk] using this
theorem spec_Check_ev (x : List Int) (hx : Bs x) (hl : x.length ≤ 140737488355328) : Ev (fun k => spec_Check.f k x) (chk x 1 0) :=
  spec_Check_l0 x hx hl x [] 1 0 rfl (by decide) (by decide) (by decide) (by decide)

/-! spec_l2Sum -/
theorem spec_l2Sum_ev (x : List Int) (hx : Bs x) (hl : x.length ≤ 140737488355328) : Ev (fun k => spec_l2Sum.f k x) (four (chk x 1 0)) := by
  unfold spec_l2Sum.f
  exact Ev.bind (spec_Check_ev x hx hl) (ev_some rfl)

/-! spec_Open -/
theorem spec_Open_ev (x : List Int) (hx : Bs x) (hl : x.length ≤ 100000000) : Ev (fun k => spec_Open.f k x) (openB x) := by
  unfold spec_Open.f openB
  rw [w64 (n := (x.length : Int) - 4) (by omega) (by omega)]
  by_cases h : (x.length : Int) - 4 < 0
  · rw [if_pos (by omega)]
    exact ev_ifp h (ev_some rfl)
  · have e : ((x.length : Int) - 4).toNat = x.length - 4 := by omega
    rw [if_neg (by omega), e]
    refine ev_ifn h (ev_ifp (by omega) (ev_ifp (by omega) (Ev.bind (spec_l2Sum_ev _ (hx.take _) (by rw [List.length_take]; omega)) ?_)))
    by_cases hc : four (chk (x.take (x.length - 4)) 1 0) = x.drop (x.length - 4)
    · rw [if_pos hc]
      refine ev_ifp ((str_inj (four_bs _) (hx.drop _)).2 hc) (ev_call rfl (ev_ifp (by simp; omega) (ev_some (by simp))))
    · rw [if_neg hc]
      exact ev_ifn (fun h => hc ((str_inj (four_bs _) (hx.drop _)).1 h)) (ev_some rfl)

/-! impl_putFour -/
theorem and255 (n : Int) : bits .and .i64 n 255 = n % 256 := by
  have h := bits_and_mask n 8 (by decide)
  simpa using h
theorem impl_putFour_eq (n : Int) : impl_putFour.f n = some (four n) := by
  unfold impl_putFour.f four
  simp only [and255]
  congr 2
  · omega
  · congr 1
    · omega
    · congr 1
      · omega
      · congr 1; omega

/-! impl_join -/
theorem impl_join_l0 (ls : List (List Int)) (hn : ls.length ≤ 1000) : ∀ (rest pre : List (List Int)) (acc : List Int), ls = pre ++ rest → acc.length + rest.flatten.length < 140737488355328 → Ev (fun k => impl_join.l0 k acc ls (ls.length : Int) (pre.length : Int)) (acc ++ rest.flatten)
  | [], pre, acc, he, h0 => by
    refine Ev.step (fun _ => impl_join.l0.eq_2 ..) ?_
    exact ev_ifn (by rw [he]; simp) (ev_some (by simp))
  | x :: rest, pre, acc, he, h0 => by
    have hl : ls.length = pre.length + (rest.length + 1) := by rw [he]; simp
    rw [List.flatten_cons, List.length_append] at h0
    have hr : rd_L1 ls (pre.length : Int) = x := by
      unfold rd_L1; rw [he]; simp
    refine Ev.step (fun _ => impl_join.l0.eq_2 ..) ?_
    rw [hr]
    refine ev_ifp (by omega) (ev_ifp (by omega) (ev_ifp (by omega) (ev_ifp (by omega) ?_)))
    have e2 : ((pre.length : Int)) + 1 = ((pre ++ [x]).length : Int) := by simp
    rw [w64 (n := (pre.length : Int) + 1) (by omega) (by omega), e2]
    refine ev_to (impl_join_l0 ls hn rest (pre ++ [x]) (acc ++ x) (by rw [he]; simp) (by rw [List.length_append]; omega)) ?_
    simp
theorem impl_join_ev (ls : List (List Int)) (hn : ls.length ≤ 1000) (h : ls.flatten.length < 140737488355328) : Ev (fun k => impl_join.f k ls) ls.flatten :=
  impl_join_l0 ls hn ls [] [] rfl (by simpa using h)

/-! impl_Check -/
theorem impl_Check_l0 (x : List Int) (hx : Bs x) (hl : x.length ≤ 140737488355328) : ∀ (rest pre : List Int) (a b : Int), x = pre ++ rest → 0 ≤ a → a < 65521 → 0 ≤ b → b < 65521 → Ev (fun k => impl_Check.l0 k a b x (x.length : Int) (pre.length : Int)) (chk rest a b) := by
  intro rest
  induction rest with
  | nil =>
    intro pre a b he ha ha' hb hb'
    have hn : x.length = pre.length := by rw [he]; simp
    refine Ev.step (fun _ => impl_Check.l0.eq_2 ..) ?_
    refine ev_ifn (by omega) (ev_some ?_)
    rw [w64 (n := b * 65536) (by omega) (by omega), w64 (by omega) (by omega)]; rfl
  | cons c rest ih =>
    intro pre a b he ha ha' hb hb'
    have hn : x.length = pre.length + (rest.length + 1) := by rw [he]; simp
    have hc := hx c (by rw [he]; simp)
    refine Ev.step (fun _ => impl_Check.l0.eq_2 ..) ?_
    refine ev_ifp (by omega) (ev_ifp (by omega) (ev_ifp (by omega) ?_))
    have hr : rd x (pre.length : Int) = c := by rw [he]; exact rd_mid _ _ _
    simp only [hr, w64 (n := c) (by omega) (by omega), w64 (n := a + c) (by omega) (by omega), tmod_pos (n := a + c) (m := 65521) (by omega)]
    rw [w64 (n := b + (a + c) % 65521) (by omega) (by omega), tmod_pos (n := b + (a + c) % 65521) (m := 65521) (by omega)]
    simp only [wnext pre.length (by omega)]
    have := ih (pre ++ [c]) ((a + c) % 65521) ((b + (a + c) % 65521) % 65521) (by rw [he]; simp) (by omega) (by omega) (by omega) (by omega)
    simpa [chk] using this
theorem impl_Check_ev (x : List Int) (hx : Bs x) (hl : x.length ≤ 140737488355328) : Ev (fun k => impl_Check.f k x) (chk x 1 0) :=
  impl_Check_l0 x hx hl x [] 1 0 rfl (by decide) (by decide) (by decide) (by decide)

/-! bytes_Equal -/
theorem bytes_Equal_eq (a b : List Int) (ha : Bs a) (hb : Bs b) : bytes_Equal.f a b = some (decide (a = b)) := by
  unfold bytes_Equal.f
  congr 1
  by_cases h : a = b
  · subst h; simp
  · have : ¬ (strOfNums a).toList = (strOfNums b).toList := fun k => h ((str_inj ha hb).1 k)
    simp [h, this]

/-! impl_Open -/
theorem impl_Open_ev (x : List Int) (hx : Bs x) (hl : x.length ≤ 100000000) : Ev (fun k => impl_Open.f k x) (openB x) := by
  unfold impl_Open.f openB
  rw [w64 (n := (x.length : Int) - 4) (by omega) (by omega)]
  by_cases h : (x.length : Int) - 4 < 0
  · rw [if_pos (by omega)]
    exact ev_ifp h (ev_some rfl)
  · have e : ((x.length : Int) - 4).toNat = x.length - 4 := by omega
    rw [if_neg (by omega), e]
    refine ev_ifn h (ev_ifp (by omega) (ev_ifp (by omega) (Ev.bind (impl_Check_ev _ (hx.take _) (by rw [List.length_take]; omega)) (ev_call (impl_putFour_eq _) (ev_call (bytes_Equal_eq _ _ (four_bs _) (hx.drop _)) ?_)))))
    by_cases hc : four (chk (x.take (x.length - 4)) 1 0) = x.drop (x.length - 4)
    · rw [if_pos hc]
      refine ev_ifp (by simpa using hc) (Ev.bind (impl_join_ev _ (by simp) (by simp; omega)) (ev_some (by simp)))
    · rw [if_neg hc]
      exact ev_ifn (by simpa using hc) (ev_some rfl)

theorem FnExactOpen (l : List Int) (h : l.length ≤ maxLen ∧ ∀ x ∈ l, (Lit.int .u8 x).wf = true) : ∃ k, laws_FnExactOpen.f k l = some true := by
  obtain ⟨hs, hb⟩ := h
  unfold maxLen at hs
  have hB := bs_of hb
  refine Ev.rounds (r := true) ?_
  unfold laws_FnExactOpen.f
  refine ev_if (fun _ => ev_some rfl) (fun h => ?_)
  have hg : ((openB l).1).length ≤ 100000000 := by have := openB_length l; omega
  repeat' first
    | exact ev_some rfl
    | refine Ev.bind (laws_toByteS_ev _ (by omega)) ?_
    | refine Ev.bind (laws_eqByteS_ev _ (by omega)) ?_
    | refine Ev.bind (laws_markByteS_ev _ _ (by omega) (by decide) (by omega)) ?_
    | refine Ev.bind (laws_heldByteS_ev _ _ (by omega) (by decide) (by omega)) ?_
    | refine Ev.bind (spec_Open_ev _ hB (by omega)) ?_
    | refine Ev.bind (impl_Open_ev _ hB (by omega)) ?_
    | refine ev_ifp (by with_reducible rfl) ?_
    | refine ev_ifn (by simp only [bne_self_eq_false, Bool.false_eq_true, not_false_eq_true]) ?_
    | refine ev_ifp (by first | decide | omega) ?_
    | refine ev_ifn (by first | decide | omega) ?_
    | refine Ev.step (fun _ => laws_FnExactOpen.j0.eq_2 ..) ?_
    | refine Ev.step (fun _ => laws_FnExactOpen.j1.eq_2 ..) ?_
    | refine Ev.step (fun _ => laws_FnExactOpen.j2.eq_2 ..) ?_

end Go.Proofs.Ytcableidjknlfaa.Pure
