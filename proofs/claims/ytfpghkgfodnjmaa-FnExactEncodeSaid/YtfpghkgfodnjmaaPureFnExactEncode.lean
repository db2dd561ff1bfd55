/- The pure statement of FnExactEncode: at every argument the law answers true. No condition. -/
import Derived.Test.YtfpghkgfodnjmaaMFnExactEncodex6
import Derived.Test.YtfpghkgfodnjmaaLib1
import Derived.Test.YtfpghkgfodnjmaaLib2
set_option linter.unusedVariables false
set_option linter.unusedSimpArgs false
namespace Go.Proofs.Ytfpghkgfodnjmaa.Pure
open Go.RowKit Go.Proofs.Ytfpghkgfodnjmaa.MFnExactEncode Go.Proofs.YtfpghkgfodnjmaaW.PrintWords Go.Proofs.YtfpghkgfodnjmaaW.PrintLast Go.Proofs.YtfpghkgfodnjmaaW.PrintMore Go.Proofs.YtfpghkgfodnjmaaLib

/-! laws_toInsS -/
def toIns (x : S115) : S113 := ⟨x.f0, x.f1⟩
theorem laws_toInsS_ev (x : List S115) (hx : x.length ≤ 10000000) : Ev (fun k => laws_toInsS.f k x) (x.map toIns) := by
  unfold laws_toInsS.f
  refine ev_ifp (by omega) (ev_ifp (by omega) ?_)
  refine copy_ev (F := fun k acc i => laws_toInsS.l0 k x acc i) (fun i hi acc hl r hr => ?_) (fun acc hl => ?_) _ (by simp)
  · refine Ev.step (fun _ => laws_toInsS.l0.eq_2 ..) ?_
    have e : rd_T115 x (i : Int) = x[i] := by simp [rd_T115, List.getD, hi]
    rw [e]
    refine ev_ifp (by omega) (ev_ifp (by omega) (ev_call rfl (ev_ifp (by omega) ?_)))
    rw [wnext i (by omega)]
    simpa [toIns] using hr
  · refine Ev.step (fun _ => laws_toInsS.l0.eq_2 ..) ?_
    exact ev_ifn (by omega) (ev_some rfl)

/-! laws_eqInsS -/
theorem laws_eqInsS_ev (x : List S113) (hx : x.length ≤ 10000000) : Ev (fun k => laws_eqInsS.f k x x) true := by
  unfold laws_eqInsS.f
  refine ev_ifp rfl ?_
  refine ev_to (all_ev (F := fun k i => laws_eqInsS.l0 k x x i) (n := x.length) (good := fun _ => true) (fin := true) (fun i hi hg r hr => ?_) (fun i hi hg => by cases hg) ?_) (by simp)
  · refine Ev.step (fun _ => laws_eqInsS.l0.eq_2 ..) ?_
    refine ev_ifp (by omega) (ev_ifp (by omega) (ev_ifp (by omega) (ev_call (a := true) (by simp [laws_eqIns.f]) (ev_ifp rfl ?_))))
    rw [wnext i (by omega)]
    exact hr
  · refine Ev.step (fun _ => laws_eqInsS.l0.eq_2 ..) ?_
    exact ev_ifn (by omega) (ev_some rfl)

/-! laws_eqByteS -/
theorem laws_eqByteS_l0 (x : List Int) (hx : x.length ≤ 140737488355328) : ∀ (d i : Nat), i + d = x.length → Ev (fun k => laws_eqByteS.l0 k x x (i : Int)) true := by
  intro d
  induction d with
  | zero =>
    intro i hi
    refine Ev.step (fun _ => laws_eqByteS.l0.eq_2 ..) ?_
    exact ev_ifn (by omega) (ev_some rfl)
  | succ d ih =>
    intro i hi
    refine Ev.step (fun _ => laws_eqByteS.l0.eq_2 ..) ?_
    refine ev_ifp (by omega) (ev_ifp (by omega) (ev_ifp (by omega) (ev_ifp rfl ?_)))
    simp only [wnext i (by omega)]
    exact ih (i + 1) (by omega)
theorem laws_eqByteS_ev (x : List Int) (hx : x.length ≤ 140737488355328) : Ev (fun k => laws_eqByteS.f k x x) true := by
  unfold laws_eqByteS.f
  exact ev_ifp rfl (laws_eqByteS_l0 x hx x.length 0 (by omega))

/-! laws_markByteS -/
theorem laws_markByteS_l0 : ∀ (rest pre : List Int) (a : Int), pre.length + rest.length ≤ 140737488355328 → 0 ≤ a → a + rest.length ≤ 4611686018427387904 →
    Ev (fun k => laws_markByteS.l0 k (pre ++ rest) a (pre.length : Int)) (a + rest.length, pre ++ marks a rest.length)
  | [], pre, a, h0, h1, h2 => by
    refine Ev.step (fun _ => laws_markByteS.l0.eq_2 ..) ?_
    exact ev_ifn (by simp) (ev_some (by simp [marks]))
  | c :: rest, pre, a, h0, h1, h2 => by
    rw [List.length_cons] at h0 h2
    refine Ev.step (fun _ => laws_markByteS.l0.eq_2 ..) ?_
    refine ev_ifp (by rw [List.length_append, List.length_cons]; omega) (ev_ifp (by omega) ?_)
    have e1 : (pre ++ c :: rest).set (pre.length : Int).toNat (a % 256) = (pre ++ [a % 256]) ++ rest := by
      rw [Int.toNat_natCast, List.set_append_right _ _ (Nat.le_refl _)]; simp
    have e2 : ((pre.length : Int)) + 1 = ((pre ++ [a % 256]).length : Int) := by simp
    rw [e1, w64 (n := a + 1) (by omega) (by omega), w64 (n := (pre.length : Int) + 1) (by omega) (by omega), e2]
    refine ev_to (laws_markByteS_l0 rest (pre ++ [a % 256]) (a + 1) (by simp; omega) (by omega) (by omega)) ?_
    simp only [marks, List.length_cons, List.append_assoc, List.singleton_append, Prod.mk.injEq, and_true]
    omega
theorem laws_markByteS_ev (x : List Int) (a : Int) (h0 : x.length ≤ 140737488355328) (h1 : 0 ≤ a) (h2 : a + x.length ≤ 4611686018427387904) : Ev (fun k => laws_markByteS.f k x a) (a + x.length, marks a x.length) :=
  laws_markByteS_l0 x [] a (by simpa using h0) h1 h2

/-! laws_heldByteS -/
theorem laws_heldByteS_l0 : ∀ (n : Nat) (pre : List Int) (a : Int), pre.length + n ≤ 140737488355328 → 0 ≤ a → a + n ≤ 4611686018427387904 →
    Ev (fun k => laws_heldByteS.l0 k (pre ++ marks a n) a (pre.length : Int)) (a + n)
  | 0, pre, a, h0, h1, h2 => by
    refine Ev.step (fun _ => laws_heldByteS.l0.eq_2 ..) ?_
    exact ev_ifn (by simp [marks]) (ev_some (by simp))
  | n + 1, pre, a, h0, h1, h2 => by
    refine Ev.step (fun _ => laws_heldByteS.l0.eq_2 ..) ?_
    rw [marks]
    refine ev_ifp (by rw [List.length_append, List.length_cons]; omega) (ev_ifp (by omega) (ev_ifp (rd_mid _ _ _) ?_))
    have e1 : pre ++ a % 256 :: marks (a + 1) n = (pre ++ [a % 256]) ++ marks (a + 1) n := by simp
    have e2 : ((pre.length : Int)) + 1 = ((pre ++ [a % 256]).length : Int) := by simp
    rw [e1, w64 (n := a + 1) (by omega) (by omega), w64 (n := (pre.length : Int) + 1) (by omega) (by omega), e2]
    exact ev_to (laws_heldByteS_l0 n (pre ++ [a % 256]) (a + 1) (by simp; omega) (by omega) (by omega)) (by omega)
theorem laws_heldByteS_ev (n : Nat) (a : Int) (h0 : n ≤ 140737488355328) (h1 : 0 ≤ a) (h2 : a + n ≤ 4611686018427387904) : Ev (fun k => laws_heldByteS.f k (marks a n) a) (a + n) :=
  laws_heldByteS_l0 n [] a (by simpa using h0) h1 h2

/-! spec_l1In -/
theorem spec_l1In_eq (a b c : Int) : spec_l1In.f a b c = some (decide (b ≤ a ∧ a ≤ c)) := by
  unfold spec_l1In.f
  by_cases h : a ≥ b
  · rw [if_pos h]; congr 1; simp; omega
  · rw [if_neg h]; congr 1; simp; omega

/-! spec_Has -/
theorem spec_Has_eq (op : Int) : spec_Has.f op = some (hasOp op) := by
  unfold spec_Has.f hasOp
  repeat' split
  all_goals (congr 1; simp; try omega)

/-! spec_l8Starts -/
def opsOf (l : List S113) : List Int := l.map (·.f0)
theorem spec_l8Starts_l0 (l : List S113) (hl : l.length ≤ 10000000) : ∀ (rest pre : List S113), l = pre ++ rest → Ev (fun k => spec_l8Starts.l0 k l (offs 0 (opsOf pre) ++ [ends 0 (opsOf pre)]) (pre.length : Int)) (offs 0 (opsOf l) ++ [ends 0 (opsOf l)])
  | [], pre, he => by
    refine Ev.step (fun _ => spec_l8Starts.l0.eq_2 ..) ?_
    have : l = pre := by rw [he]; simp
    subst this
    exact ev_ifn (by omega) (ev_some rfl)
  | x :: rest, pre, he => by
    have hn : l.length = pre.length + (rest.length + 1) := by rw [he]; simp
    refine Ev.step (fun _ => spec_l8Starts.l0.eq_2 ..) ?_
    have e : rd_T113 l (pre.length : Int) = x := by rw [he]; simp [rd_T113]
    have hlen : (offs 0 (opsOf pre) ++ [ends 0 (opsOf pre)]).length = pre.length + 1 := by simp [offs_length, opsOf]
    have hrd : rd (offs 0 (opsOf pre) ++ [ends 0 (opsOf pre)]) (pre.length : Int) = ends 0 (opsOf pre) := by
      have := rd_mid (offs 0 (opsOf pre)) (ends 0 (opsOf pre)) []
      rwa [offs_length, opsOf, List.length_map] at this
    have hr := ends_range (opsOf pre) 0
    have hpl : (opsOf pre).length = pre.length := by simp [opsOf]
    have hs := sizeOp_range x.f0
    refine ev_ifp (by omega) (ev_ifp (by omega) (ev_ifp (by omega) ?_))
    rw [e, hrd]
    refine ev_call (spec_Has_eq _) (ev_call (a := sizeOp x.f0 - 1) (by unfold spec_l1Bit.f sizeOp; split <;> simp_all) (ev_ifp (by omega) ?_))
    rw [w64 (n := ends 0 (opsOf pre) + 1) (by omega) (by omega), w64 (n := ends 0 (opsOf pre) + 1 + (sizeOp x.f0 - 1)) (by omega) (by omega), wnext pre.length (by omega)]
    have h2 := spec_l8Starts_l0 l hl rest (pre ++ [x]) (by rw [he]; simp)
    have e3 : offs 0 (opsOf (pre ++ [x])) ++ [ends 0 (opsOf (pre ++ [x]))] = offs 0 (opsOf pre) ++ [ends 0 (opsOf pre)] ++ [ends 0 (opsOf pre) + 1 + (sizeOp x.f0 - 1)] := by
      simp only [opsOf, List.map_append, List.map_cons, List.map_nil, offs_append, ends_append, offs, ends]
      congr 2
      omega
    rw [e3] at h2
    simpa using h2
theorem spec_l8Starts_ev (l : List S113) (hl : l.length ≤ 10000000) : Ev (fun k => spec_l8Starts.f k l) (offs 0 (opsOf l) ++ [ends 0 (opsOf l)]) :=
  spec_l8Starts_l0 l hl l [] rfl

/-! spec_l8Ins -/
theorem spec_l8Ins_ev (op x n : Int) (h0 : 0 ≤ n) (h1 : n ≤ 1000000000) : Ev (fun k => spec_l8Ins.f k op x n) (insOk op x n) := by
  have j2 : ∀ c : Bool, Ev (fun k => spec_l8Ins.j2 k n c op x) (if c = true then decide (0 ≤ x ∧ x ≤ n - 1) else decide (1 ≤ op ∧ op ≤ 24) && (x == 0)) := by
    intro c
    refine Ev.step (fun _ => spec_l8Ins.j2.eq_2 ..) ?_
    rw [w64 (n := n - 1) (by omega) (by omega)]
    cases c with
    | true => exact ev_ifp rfl (ev_call (spec_l1In_eq ..) (ev_some rfl))
    | false =>
      refine ev_ifn (by simp) (ev_call (spec_l1In_eq ..) ?_)
      by_cases h : 1 ≤ op ∧ op ≤ 24
      · exact ev_ifp (by simpa using h) (ev_some (by simp [h]))
      · exact ev_ifn (by simpa using h) (ev_some (by simp only [decide_eq_false h, Bool.false_and]; rfl))
  have j1 : ∀ c : Bool, Ev (fun k => spec_l8Ins.j1 k n op c op x) (if c = true then decide (0 ≤ x ∧ x ≤ 5) else if op = 13 ∨ op = 14 then decide (0 ≤ x ∧ x ≤ n - 1) else decide (1 ≤ op ∧ op ≤ 24) && (x == 0)) := by
    intro c
    refine Ev.step (fun _ => spec_l8Ins.j1.eq_2 ..) ?_
    cases c with
    | true => exact ev_ifp rfl (ev_call (spec_l1In_eq ..) (ev_some rfl))
    | false =>
      refine ev_ifn (by simp) ?_
      by_cases h : op = 13
      · exact ev_ifp h (ev_to (j2 _) (by simp [h]))
      · exact ev_ifn h (ev_to (j2 (op == 14)) (by simp [h]))
  have j0 : ∀ c : Bool, Ev (fun k => spec_l8Ins.j0 k n op c op x) (if c = true then decide (0 ≤ x ∧ x ≤ 23) else if op = 3 ∨ op = 4 then decide (0 ≤ x ∧ x ≤ 5) else if op = 13 ∨ op = 14 then decide (0 ≤ x ∧ x ≤ n - 1) else decide (1 ≤ op ∧ op ≤ 24) && (x == 0)) := by
    intro c
    refine Ev.step (fun _ => spec_l8Ins.j0.eq_2 ..) ?_
    cases c with
    | true => exact ev_ifp rfl (ev_call (spec_l1In_eq ..) (ev_some rfl))
    | false =>
      refine ev_ifn (by simp) ?_
      by_cases h : op = 3
      · exact ev_ifp h (ev_to (j1 _) (by simp [h]))
      · exact ev_ifn h (ev_to (j1 (op == 4)) (by simp [h]))
  unfold spec_l8Ins.f insOk
  by_cases h1 : op = 1
  · rw [if_pos h1]
    exact ev_ifp h1 (ev_call (spec_l1In_eq ..) (ev_some rfl))
  · rw [if_neg h1]
    refine ev_ifn h1 ?_
    by_cases h2 : op = 2
    · exact ev_ifp h2 (ev_to (j0 _) (by simp [h2, poolOp]))
    · refine ev_ifn h2 ?_
      by_cases h9 : op = 9
      · exact ev_ifp h9 (ev_to (j0 _) (by simp [h9, poolOp]))
      · refine ev_ifn h9 ?_
        by_cases h10 : op = 10
        · exact ev_ifp h10 (ev_to (j0 _) (by simp [h10, poolOp]))
        · refine ev_ifn h10 ?_
          by_cases h11 : op = 11
          · exact ev_ifp h11 (ev_to (j0 _) (by simp [h11, poolOp]))
          · exact ev_ifn h11 (ev_to (j0 _) (by simp [h2, h9, h10, h11, poolOp]))

/-! spec_CodeOk -/
def insGood (l : List S113) (i : Nat) : Bool := insOk (rd_T113 l (i : Int)).f0 (rd_T113 l (i : Int)).f1 (l.length : Int)
def lastOk (l : List S113) : Bool := decide ((rd_T113 l ((l.length : Int) - 1)).f0 = 14 ∨ (rd_T113 l ((l.length : Int) - 1)).f0 = 19)
def codeOk (l : List S113) : Bool := if 1 ≤ (l.length : Int) ∧ (l.length : Int) ≤ 90 ∧ ends 0 (opsOf l) ≤ 90 then (List.range l.length).all (insGood l) && lastOk l else false
theorem spec_CodeOk_ev (l : List S113) (hl : l.length ≤ 10000000) : Ev (fun k => spec_CodeOk.f k l) (codeOk l) := by
  have hT : Ev (fun k => spec_CodeOk.j0 k l (l.length : Int) true) false := by
    refine Ev.step (fun _ => spec_CodeOk.j0.eq_2 ..) ?_
    exact ev_ifp rfl (ev_some rfl)
  unfold spec_CodeOk.f
  refine ev_call (spec_l1In_eq ..) ?_
  by_cases h : 1 ≤ (l.length : Int) ∧ (l.length : Int) ≤ 90
  · refine ev_ifp (by simpa using h) (Ev.bind (spec_l8Starts_ev l hl) ?_)
    have hlen : (offs 0 (opsOf l) ++ [ends 0 (opsOf l)]).length = l.length + 1 := by simp [offs_length, opsOf]
    have hrd : rd (offs 0 (opsOf l) ++ [ends 0 (opsOf l)]) (l.length : Int) = ends 0 (opsOf l) := by
      have := rd_mid (offs 0 (opsOf l)) (ends 0 (opsOf l)) []
      rwa [offs_length, opsOf, List.length_map] at this
    refine ev_ifp (by omega) (ev_ifp (by omega) ?_)
    rw [hrd]
    by_cases hz : ends 0 (opsOf l) > 90
    · have e : decide (ends 0 (opsOf l) > 90) = true := by simpa using hz
      rw [e]
      exact ev_to hT (by unfold codeOk; rw [if_neg (by omega)])
    · have e : decide (ends 0 (opsOf l) > 90) = false := by simpa using hz
      rw [e]
      refine Ev.step (fun _ => spec_CodeOk.j0.eq_2 ..) ?_
      refine ev_ifn (by simp) ?_
      have ec : codeOk l = ((List.range l.length).all (insGood l) && lastOk l) := by unfold codeOk; rw [if_pos ⟨h.1, h.2, by omega⟩]
      rw [ec]
      refine all_ev (F := fun k i => spec_CodeOk.l0 k l (l.length : Int) i) (fun i hi hg r hr => ?_) (fun i hi hg => ?_) ?_
      · refine Ev.step (fun _ => spec_CodeOk.l0.eq_2 ..) ?_
        rw [wnext i (by omega)]
        exact ev_ifp (by omega) (ev_ifp (by omega) (ev_ifp (by omega) (Ev.bind (spec_l8Ins_ev _ _ _ (by omega) (by omega)) (ev_ifp hg hr))))
      · refine Ev.step (fun _ => spec_CodeOk.l0.eq_2 ..) ?_
        exact ev_ifp (by omega) (ev_ifp (by omega) (ev_ifp (by omega) (Ev.bind (spec_l8Ins_ev _ _ _ (by omega) (by omega)) (ev_ifn (by unfold insGood at hg; rw [hg]; simp) (ev_some rfl)))))
      · refine Ev.step (fun _ => spec_CodeOk.l0.eq_2 ..) ?_
        rw [w64 (n := (l.length : Int) - 1) (by omega) (by omega)]
        refine ev_ifn (by omega) (ev_ifp (by omega) (ev_ifp (by omega) ?_))
        by_cases h14 : (rd_T113 l ((l.length : Int) - 1)).f0 = 14
        · exact ev_ifp h14 (ev_some (by simp [lastOk, h14]))
        · exact ev_ifn h14 (ev_some (by rw [Bool.eq_iff_iff]; simp [lastOk, h14]))
  · exact ev_ifn (by simpa using h) (ev_to hT (by unfold codeOk; rw [if_neg (fun k => h ⟨k.1, k.2.1⟩)]))

/-! spec_Encode -/
def insBytes (o : List Int) (x : S113) : List Int := x.f0 % 256 :: (if x.f0 = 1 then [wrap64 (x.f1 + 128) % 256] else if x.f0 = 13 ∨ x.f0 = 14 then [rd o x.f1 % 256] else if hasOp x.f0 = true then [x.f1 % 256] else [])
def encode (l : List S113) : List Int := if codeOk l = true then l.flatMap (insBytes (offs 0 (opsOf l))) else []
theorem codeOk_jumps {l : List S113} (h : codeOk l = true) : l.length ≤ 90 ∧ ∀ x ∈ l, (x.f0 = 13 ∨ x.f0 = 14) → 0 ≤ x.f1 ∧ x.f1 < (l.length : Int) := by
  unfold codeOk at h
  split at h
  · rename_i h1
    refine ⟨by omega, fun x hx h13 => ?_⟩
    simp only [Bool.and_eq_true, List.all_eq_true] at h
    obtain ⟨i, hi, e⟩ := List.getElem_of_mem hx
    have h2 := h.1 i (List.mem_range.2 hi)
    have er : rd_T113 l (i : Int) = x := by rw [← e]; simp [rd_T113, List.getD, hi]
    unfold insGood insOk at h2
    rw [er, if_neg (by omega), if_neg (by unfold poolOp; simp; omega), if_neg (by omega), if_pos h13] at h2
    have := of_decide_eq_true h2
    omega
  · cases h
theorem insBytes_len (o : List Int) (x : S113) : (insBytes o x).length ≤ 2 := by
  unfold insBytes
  rw [List.length_cons]
  split
  · simp
  · split
    · simp
    · split <;> simp
theorem flat_len (o : List Int) : ∀ l : List S113, (l.flatMap (insBytes o)).length ≤ 2 * l.length
  | [] => by simp
  | x :: r => by
    rw [List.flatMap_cons, List.length_append, List.length_cons]
    have := flat_len o r
    have := insBytes_len o x
    omega
theorem encode_len (l : List S113) : (encode l).length ≤ 180 := by
  unfold encode
  split
  · rename_i h
    have := (codeOk_jumps h).1
    have := flat_len (offs 0 (opsOf l)) l
    omega
  · simp
theorem spec_Encode_l0 (l : List S113) (o : List Int) (hl : l.length ≤ 10000000) (hg : ∀ x ∈ l, (x.f0 = 13 ∨ x.f0 = 14) → 0 ≤ x.f1 ∧ x.f1 < (o.length : Int)) : ∀ (rest pre : List S113) (acc : List Int), l = pre ++ rest → acc.length ≤ 2 * pre.length → Ev (fun k => spec_Encode.l0 k l acc o (pre.length : Int)) (acc ++ rest.flatMap (insBytes o))
  | [], pre, acc, he, ha => by
    refine Ev.step (fun _ => spec_Encode.l0.eq_2 ..) ?_
    have : l = pre := by rw [he]; simp
    subst this
    exact ev_ifn (by omega) (ev_some (by simp))
  | x :: rest, pre, acc, he, ha => by
    have hn : l.length = pre.length + (rest.length + 1) := by rw [he]; simp
    have e : rd_T113 l (pre.length : Int) = x := by rw [he]; simp [rd_T113]
    have hx : x ∈ l := by rw [he]; simp
    have hnext : ∀ acc' : List Int, acc'.length ≤ 2 * pre.length + 2 → Ev (fun k => spec_Encode.l0 k l acc' o (wrap64 ((pre.length : Int) + 1))) (acc' ++ rest.flatMap (insBytes o)) := by
      intro acc' h'
      rw [wnext pre.length (by omega)]
      have := spec_Encode_l0 l o hl hg rest (pre ++ [x]) acc' (by rw [he]; simp) (by simp; omega)
      simpa using this
    have hj : ∀ c : Bool, (c = true ↔ (x.f0 = 13 ∨ x.f0 = 14)) → x.f0 ≠ 1 → Ev (fun k => spec_Encode.j1 k l (acc ++ [x.f0 % 256]) o (pre.length : Int) c x.f0 x.f1) (acc ++ (x :: rest).flatMap (insBytes o)) := by
      intro c hc h1
      refine Ev.step (fun _ => spec_Encode.j1.eq_2 ..) ?_
      by_cases h13 : x.f0 = 13 ∨ x.f0 = 14
      · have hb := hg x hx h13
        refine ev_ifp (hc.2 h13) (ev_ifp hb.1 (ev_ifp hb.2 (ev_ifp (by simp; omega) (ev_to (hnext _ (by simp; omega)) ?_))))
        simp [insBytes, h1, h13]
      · refine ev_ifn (fun k => h13 (hc.1 k)) (ev_call (spec_Has_eq _) ?_)
        by_cases hh : hasOp x.f0 = true
        · refine ev_ifp hh (ev_ifp (by simp; omega) (ev_to (hnext _ (by simp; omega)) ?_))
          simp [insBytes, h1, h13, hh]
        · refine ev_ifn hh (ev_to (hnext _ (by simp; omega)) ?_)
          simp [insBytes, h1, h13, hh]
    refine Ev.step (fun _ => spec_Encode.l0.eq_2 ..) ?_
    rw [e]
    refine ev_ifp (by omega) (ev_ifp (by omega) (ev_ifp (by omega) (ev_call rfl ?_)))
    by_cases h1 : x.f0 = 1
    · refine ev_ifp h1 (ev_ifp (by simp; omega) (ev_to (hnext _ (by simp; omega)) ?_))
      simp [insBytes, h1]
    · refine ev_ifn h1 ?_
      by_cases h13 : x.f0 = 13
      · exact ev_ifp h13 (hj _ (by simp [h13]) h1)
      · exact ev_ifn h13 (hj _ (by simp [h13]) h1)
theorem spec_Encode_ev (l : List S113) (hl : l.length ≤ 10000000) : Ev (fun k => spec_Encode.f k l) (encode l) := by
  unfold spec_Encode.f encode
  refine ev_call rfl (Ev.bind (spec_CodeOk_ev l (by omega)) ?_)
  by_cases h : codeOk l = true
  · rw [if_pos h]
    obtain ⟨h1, h2⟩ := codeOk_jumps h
    have hlen : (offs 0 (opsOf l) ++ [ends 0 (opsOf l)]).length = l.length + 1 := by simp [offs_length, opsOf]
    refine ev_ifp h (Ev.bind (spec_l8Starts_ev l (by omega)) (ev_to (spec_Encode_l0 l _ hl (fun x hx h13 => by have := h2 x hx h13; omega) l [] [] rfl (by simp)) ?_))
    rw [List.nil_append, List.flatMap_def, List.flatMap_def]
    congr 1
    refine List.map_congr_left (fun x hx => ?_)
    unfold insBytes
    by_cases h13 : x.f0 = 13 ∨ x.f0 = 14
    · have hb := h2 x hx h13
      have er : rd (offs 0 (opsOf l) ++ [ends 0 (opsOf l)]) x.f1 = rd (offs 0 (opsOf l)) x.f1 := by
        have hq : x.f1.toNat < (offs 0 (opsOf l)).length := by rw [offs_length, opsOf, List.length_map]; omega
        simp [rd, List.getElem?_append_left hq]
      rw [er]
    · rw [if_neg h13, if_neg h13]
  · rw [if_neg h]
    exact ev_ifn h (ev_some rfl)

/-! impl_within -/
theorem impl_within_eq (a b c : Int) : impl_within.f a b c = some (decide (b ≤ a ∧ a ≤ c)) := by
  unfold impl_within.f
  by_cases h : a ≥ b
  · rw [if_pos h]; congr 1; simp; omega
  · rw [if_neg h]; congr 1; simp; omega

/-! impl_usesPool -/
theorem impl_usesPool_eq (op : Int) : impl_usesPool.f op = some (poolOp op) := by
  unfold impl_usesPool.f poolOp
  repeat' split
  all_goals (congr 1; rw [Bool.eq_iff_iff]; simp; try omega)

/-! impl_insOk -/
theorem impl_insOk_ev (op x n : Int) (h0 : 0 ≤ n) (h1 : n ≤ 1000000000) : Ev (fun k => impl_insOk.f k op x n) (insOk op x n) := by
  have j1 : ∀ c : Bool, Ev (fun k => impl_insOk.j1 k n c op x) (if c = true then decide (0 ≤ x ∧ x ≤ n - 1) else decide (1 ≤ op ∧ op ≤ 24) && (x == 0)) := by
    intro c
    refine Ev.step (fun _ => impl_insOk.j1.eq_2 ..) ?_
    rw [w64 (n := n - 1) (by omega) (by omega)]
    cases c with
    | true => exact ev_ifp rfl (ev_call (impl_within_eq ..) (ev_some rfl))
    | false =>
      refine ev_ifn (by simp) (ev_call (impl_within_eq ..) ?_)
      by_cases h : 1 ≤ op ∧ op ≤ 24
      · exact ev_ifp (by simpa using h) (ev_some (by simp [h]))
      · exact ev_ifn (by simpa using h) (ev_some (by simp only [decide_eq_false h, Bool.false_and]; rfl))
  have j0 : ∀ c : Bool, Ev (fun k => impl_insOk.j0 k n c op x) (if c = true then decide (0 ≤ x ∧ x ≤ 5) else if op = 13 ∨ op = 14 then decide (0 ≤ x ∧ x ≤ n - 1) else decide (1 ≤ op ∧ op ≤ 24) && (x == 0)) := by
    intro c
    refine Ev.step (fun _ => impl_insOk.j0.eq_2 ..) ?_
    cases c with
    | true => exact ev_ifp rfl (ev_call (impl_within_eq ..) (ev_some rfl))
    | false =>
      refine ev_ifn (by simp) ?_
      by_cases h : op = 13
      · exact ev_ifp h (ev_to (j1 true) (by simp [h]))
      · exact ev_ifn h (ev_to (j1 (op == 14)) (by simp [h]))
  unfold impl_insOk.f insOk
  by_cases h1 : op = 1
  · rw [if_pos h1]
    exact ev_ifp h1 (ev_call (impl_within_eq ..) (ev_some rfl))
  · rw [if_neg h1]
    refine ev_ifn h1 (ev_call (impl_usesPool_eq op) ?_)
    cases hp : poolOp op with
    | true => exact ev_ifp rfl (ev_call (impl_within_eq ..) (ev_some (by simp)))
    | false =>
      refine ev_ifn (by simp) ?_
      by_cases h3 : op = 3
      · exact ev_ifp h3 (ev_to (j0 true) (by simp [h3]))
      · exact ev_ifn h3 (ev_to (j0 (op == 4)) (by simp [h3]))

/-! impl_Has -/
theorem impl_Has_eq (op : Int) : impl_Has.f op = some (hasOp op) := by
  unfold impl_Has.f hasOp
  rw [impl_usesPool_eq, Option.bind_some]
  unfold poolOp
  repeat' split
  all_goals (congr 1; rw [Bool.eq_iff_iff]; simp; try omega)

/-! impl_sizeOf -/
theorem impl_sizeOf_eq (op x : Int) : impl_sizeOf.f op x = some (sizeOp op) := by
  unfold impl_sizeOf.f sizeOp
  rw [impl_Has_eq, Option.bind_some]
  split <;> rfl

/-! impl_CodeOk -/
theorem impl_CodeOk_l0 (l : List S113) (hl : l.length ≤ 10000000) : ∀ (rest pre : List S113), l = pre ++ rest → Ev (fun k => impl_CodeOk.l0 k (l.length : Int) (ends 0 (opsOf pre)) l (l.length : Int) (pre.length : Int)) ((List.range' pre.length rest.length).all (insGood l) && decide (ends 0 (opsOf l) ≤ 90))
  | [], pre, he => by
    refine Ev.step (fun _ => impl_CodeOk.l0.eq_2 ..) ?_
    have : l = pre := by rw [he]; simp
    subst this
    exact ev_ifn (by omega) (ev_some (by simp))
  | x :: rest, pre, he => by
    have hn : l.length = pre.length + (rest.length + 1) := by rw [he]; simp
    refine Ev.step (fun _ => impl_CodeOk.l0.eq_2 ..) ?_
    have e : rd_T113 l (pre.length : Int) = x := by rw [he]; simp [rd_T113]
    have hr := ends_range (opsOf pre) 0
    have hpl : (opsOf pre).length = pre.length := by simp [opsOf]
    have hs := sizeOp_range x.f0
    refine ev_ifp (by omega) (ev_ifp (by omega) (ev_ifp (by omega) (Ev.bind (impl_insOk_ev _ _ _ (by omega) (by omega)) ?_)))
    rw [List.length_cons, List.range'_succ, List.all_cons]
    cases hg : insGood l pre.length with
    | false => exact ev_ifn (by unfold insGood at hg; rw [hg]; simp) (ev_some (by simp))
    | true =>
      refine ev_ifp hg (ev_call (impl_sizeOf_eq _ _) ?_)
      rw [e, w64 (n := ends 0 (opsOf pre) + sizeOp x.f0) (by omega) (by omega), wnext pre.length (by omega)]
      have h2 := impl_CodeOk_l0 l hl rest (pre ++ [x]) (by rw [he]; simp)
      have e3 : ends 0 (opsOf (pre ++ [x])) = ends 0 (opsOf pre) + sizeOp x.f0 := by simp [opsOf, ends_append, ends]
      rw [e3] at h2
      simpa using h2
theorem impl_CodeOk_ev (l : List S113) (hl : l.length ≤ 10000000) : Ev (fun k => impl_CodeOk.f k l) (codeOk l) := by
  have hj : ∀ c : Bool, Ev (fun k => impl_CodeOk.j0 k l (l.length : Int) c) (if c = true then false else (List.range l.length).all (insGood l) && decide (ends 0 (opsOf l) ≤ 90)) := by
    intro c
    refine Ev.step (fun _ => impl_CodeOk.j0.eq_2 ..) ?_
    cases c with
    | true => exact ev_ifp rfl (ev_some rfl)
    | false =>
      refine ev_ifn (by simp) ?_
      have := impl_CodeOk_l0 l hl l [] rfl
      simpa [List.range_eq_range', opsOf, ends] using this
  unfold impl_CodeOk.f
  refine ev_call (impl_within_eq ..) ?_
  by_cases h : 1 ≤ (l.length : Int) ∧ (l.length : Int) ≤ 90
  · refine ev_ifp (by simpa using h) ?_
    rw [w64 (n := (l.length : Int) - 1) (by omega) (by omega)]
    refine ev_ifp (by omega) (ev_ifp (by omega) ?_)
    have ec : codeOk l = (lastOk l && ((List.range l.length).all (insGood l) && decide (ends 0 (opsOf l) ≤ 90))) := by
      unfold codeOk
      by_cases hz : ends 0 (opsOf l) ≤ 90
      · rw [if_pos ⟨h.1, h.2, hz⟩]
        simp [hz, Bool.and_comm]
      · rw [if_neg (fun k => hz k.2.2)]
        simp [hz]
    rw [ec]
    by_cases h14 : (rd_T113 l ((l.length : Int) - 1)).f0 = 14
    · exact ev_ifp h14 (ev_to (hj false) (by simp [lastOk, h14]))
    · refine ev_ifn h14 (ev_to (hj _) ?_)
      by_cases h19 : (rd_T113 l ((l.length : Int) - 1)).f0 = 19
      · simp [lastOk, h19]
      · simp [lastOk, h14, h19]
  · exact ev_ifn (by simpa using h) (ev_to (hj true) (by rw [if_pos rfl]; unfold codeOk; rw [if_neg (fun k => h ⟨k.1, k.2.1⟩)]))

/-! impl_offsetsOf -/
theorem impl_offsetsOf_l0 (l : List S113) (hl : l.length ≤ 10000000) : ∀ (rest pre : List S113), l = pre ++ rest → Ev (fun k => impl_offsetsOf.l0 k (offs 0 (opsOf pre)) (ends 0 (opsOf pre)) l (l.length : Int) (pre.length : Int)) (offs 0 (opsOf l))
  | [], pre, he => by
    refine Ev.step (fun _ => impl_offsetsOf.l0.eq_2 ..) ?_
    have : l = pre := by rw [he]; simp
    subst this
    exact ev_ifn (by omega) (ev_some rfl)
  | x :: rest, pre, he => by
    have hn : l.length = pre.length + (rest.length + 1) := by rw [he]; simp
    refine Ev.step (fun _ => impl_offsetsOf.l0.eq_2 ..) ?_
    have e : rd_T113 l (pre.length : Int) = x := by rw [he]; simp [rd_T113]
    have hlen : (offs 0 (opsOf pre)).length = pre.length := by simp [offs_length, opsOf]
    have hr := ends_range (opsOf pre) 0
    have hpl : (opsOf pre).length = pre.length := by simp [opsOf]
    have hs := sizeOp_range x.f0
    rw [e]
    refine ev_ifp (by omega) (ev_ifp (by omega) (ev_ifp (by omega) (ev_ifp (by omega) (ev_call (impl_sizeOf_eq _ _) ?_))))
    rw [w64 (n := ends 0 (opsOf pre) + sizeOp x.f0) (by omega) (by omega), wnext pre.length (by omega)]
    have h2 := impl_offsetsOf_l0 l hl rest (pre ++ [x]) (by rw [he]; simp)
    have e3 : offs 0 (opsOf (pre ++ [x])) = offs 0 (opsOf pre) ++ [ends 0 (opsOf pre)] := by
      simp only [opsOf, List.map_append, List.map_cons, List.map_nil, offs_append, offs]
    have e4 : ends 0 (opsOf (pre ++ [x])) = ends 0 (opsOf pre) + sizeOp x.f0 := by
      simp only [opsOf, List.map_append, List.map_cons, List.map_nil, ends_append, ends]
    rw [e3, e4] at h2
    simpa using h2
theorem impl_offsetsOf_ev (l : List S113) (hl : l.length ≤ 10000000) : Ev (fun k => impl_offsetsOf.f k l) (offs 0 (opsOf l)) := by
  unfold impl_offsetsOf.f
  have := impl_offsetsOf_l0 l hl l [] rfl
  simpa [opsOf, offs, ends] using this

/-! impl_Encode -/
theorem impl_Encode_l0 (l : List S113) (o : List Int) (hl : l.length ≤ 10000000) (hg : ∀ x ∈ l, (x.f0 = 13 ∨ x.f0 = 14) → 0 ≤ x.f1 ∧ x.f1 < (o.length : Int)) : ∀ (rest pre : List S113) (acc : List Int), l = pre ++ rest → acc.length ≤ 2 * pre.length → Ev (fun k => impl_Encode.l0 k o acc l (l.length : Int) (pre.length : Int)) (acc ++ rest.flatMap (insBytes o))
  | [], pre, acc, he, ha => by
    refine Ev.step (fun _ => impl_Encode.l0.eq_2 ..) ?_
    have : l = pre := by rw [he]; simp
    subst this
    exact ev_ifn (by omega) (ev_some (by simp))
  | x :: rest, pre, acc, he, ha => by
    have hn : l.length = pre.length + (rest.length + 1) := by rw [he]; simp
    have e : rd_T113 l (pre.length : Int) = x := by rw [he]; simp [rd_T113]
    have hx : x ∈ l := by rw [he]; simp
    have hnext : ∀ acc' : List Int, acc'.length ≤ 2 * pre.length + 2 → Ev (fun k => impl_Encode.l0 k o acc' l (l.length : Int) (wrap64 ((pre.length : Int) + 1))) (acc' ++ rest.flatMap (insBytes o)) := by
      intro acc' h'
      rw [wnext pre.length (by omega)]
      have := impl_Encode_l0 l o hl hg rest (pre ++ [x]) acc' (by rw [he]; simp) (by simp; omega)
      simpa using this
    have hj : ∀ c : Bool, (c = true ↔ (x.f0 = 13 ∨ x.f0 = 14)) → x.f0 ≠ 1 → Ev (fun k => impl_Encode.j1 k o (acc ++ [x.f0 % 256]) l (l.length : Int) (pre.length : Int) c x.f0 x.f1) (acc ++ (x :: rest).flatMap (insBytes o)) := by
      intro c hc h1
      refine Ev.step (fun _ => impl_Encode.j1.eq_2 ..) ?_
      by_cases h13 : x.f0 = 13 ∨ x.f0 = 14
      · have hb := hg x hx h13
        refine ev_ifp (hc.2 h13) (ev_ifp hb.1 (ev_ifp hb.2 (ev_ifp (by simp; omega) (ev_to (hnext _ (by simp; omega)) ?_))))
        simp [insBytes, h1, h13]
      · refine ev_ifn (fun k => h13 (hc.1 k)) (ev_call (impl_Has_eq _) ?_)
        by_cases hh : hasOp x.f0 = true
        · refine ev_ifp hh (ev_ifp (by simp; omega) (ev_to (hnext _ (by simp; omega)) ?_))
          simp [insBytes, h1, h13, hh]
        · refine ev_ifn hh (ev_to (hnext _ (by simp; omega)) ?_)
          simp [insBytes, h1, h13, hh]
    refine Ev.step (fun _ => impl_Encode.l0.eq_2 ..) ?_
    rw [e]
    refine ev_ifp (by omega) (ev_ifp (by omega) (ev_ifp (by omega) (ev_ifp (by omega) (ev_call rfl ?_))))
    by_cases h1 : x.f0 = 1
    · refine ev_ifp h1 (ev_ifp (by simp; omega) (ev_to (hnext _ (by simp; omega)) ?_))
      simp [insBytes, h1]
    · refine ev_ifn h1 ?_
      by_cases h13 : x.f0 = 13
      · exact ev_ifp h13 (hj _ (by simp [h13]) h1)
      · exact ev_ifn h13 (hj _ (by simp [h13]) h1)
theorem impl_Encode_ev (l : List S113) (hl : l.length ≤ 10000000) : Ev (fun k => impl_Encode.f k l) (encode l) := by
  unfold impl_Encode.f encode
  refine Ev.bind (impl_CodeOk_ev l (by omega)) ?_
  by_cases h : codeOk l = true
  · rw [if_pos h]
    obtain ⟨h1, h2⟩ := codeOk_jumps h
    have hlen : (offs 0 (opsOf l)).length = l.length := by simp [offs_length, opsOf]
    refine ev_ifp h (Ev.bind (impl_offsetsOf_ev l (by omega)) (ev_to (impl_Encode_l0 l _ hl (fun x hx h13 => by have := h2 x hx h13; omega) l [] [] rfl (by simp)) ?_))
    rw [List.nil_append]
  · rw [if_neg h]
    exact ev_ifn h (ev_some rfl)

/-! laws_markInsS -/
def marksIns : Int → Nat → List S113
  | _, 0 => []
  | a, n + 1 => ⟨a, a + 1⟩ :: marksIns (a + 2) n
theorem laws_markInsS_l0 : ∀ (rest pre : List S113) (a : Int), pre.length + rest.length ≤ 140737488355328 → 0 ≤ a → a + 2 * rest.length ≤ 4611686018427387904 →
    Ev (fun k => laws_markInsS.l0 k (pre ++ rest) a (pre.length : Int)) (a + 2 * rest.length, pre ++ marksIns a rest.length)
  | [], pre, a, h0, h1, h2 => by
    refine Ev.step (fun _ => laws_markInsS.l0.eq_2 ..) ?_
    exact ev_ifn (by simp) (ev_some (by simp [marksIns]))
  | c :: rest, pre, a, h0, h1, h2 => by
    rw [List.length_cons] at h0 h2
    have hr : ∀ d : S113, rd_T113 (pre ++ d :: rest) (pre.length : Int) = d := by intro d; simp [rd_T113]
    have hs : ∀ c d : S113, (pre ++ c :: rest).set (pre.length : Int).toNat d = pre ++ d :: rest := by
      intro c d; rw [Int.toNat_natCast, List.set_append_right _ _ (Nat.le_refl _)]; simp
    refine Ev.step (fun _ => laws_markInsS.l0.eq_2 ..) ?_
    refine ev_ifp (by rw [List.length_append, List.length_cons]; omega) (ev_ifp (by omega) (ev_call rfl ?_))
    rw [hs, hr, hr, hs, w64 (n := a + 1) (by omega) (by omega), w64 (n := a + 1 + 1) (by omega) (by omega), wnext pre.length (by omega)]
    have h3 := laws_markInsS_l0 rest (pre ++ [⟨a, a + 1⟩]) (a + 1 + 1) (by simp; omega) (by omega) (by omega)
    rw [List.append_assoc, List.length_append] at h3
    refine ev_to h3 ?_
    have e : a + 1 + 1 = a + 2 := by omega
    simp only [marksIns, e, List.length_cons, List.append_assoc, List.singleton_append, Prod.mk.injEq, and_true]
    omega
theorem laws_markInsS_ev (x : List S113) (a : Int) (h0 : x.length ≤ 140737488355328) (h1 : 0 ≤ a) (h2 : a + 2 * x.length ≤ 4611686018427387904) : Ev (fun k => laws_markInsS.f k x a) (a + 2 * x.length, marksIns a x.length) :=
  laws_markInsS_l0 x [] a (by simpa using h0) h1 h2

theorem FnExactEncode (l : List S115) (h : l.length ≤ maxLen ∧ ∀ x ∈ l, (Lit.int .i64 x.f0).wf = true ∧ (Lit.int .i64 x.f1).wf = true) : ∃ k, laws_FnExactEncode.f k l = some true := by
  obtain ⟨hs, hb⟩ := h
  unfold maxLen at hs
  refine Ev.rounds (r := true) ?_
  unfold laws_FnExactEncode.f laws_szInsS.f
  rw [w64 (n := (1048576 : Int) - (l.length : Int)) (by omega) (by omega)]
  by_cases hn : (1048576 : Int) - (l.length : Int) < 0
  · rw [if_pos hn]
    exact ev_call rfl (ev_ifp (by decide) (ev_some rfl))
  · rw [if_neg hn]
    refine ev_call rfl (ev_ifn hn ?_)
    have t := laws_toInsS_ev l (by omega)
    have hm : (l.map toIns).length ≤ 1000000 + 48576 := by rw [List.length_map]; omega
    have hg := encode_len (l.map toIns)
    repeat' first
      | exact ev_some rfl
      | refine Ev.bind (t) ?_
      | refine Ev.bind (spec_Encode_ev _ (by omega)) ?_
      | refine Ev.bind (impl_Encode_ev _ (by omega)) ?_
      | refine Ev.bind (laws_eqByteS_ev _ (by omega)) ?_
      | refine Ev.bind (laws_eqInsS_ev _ (by omega)) ?_
      | refine Ev.bind (laws_markInsS_ev _ _ (by omega) (by decide) (by omega)) ?_
      | refine Ev.bind (laws_markByteS_ev _ _ (by omega) (by decide) (by omega)) ?_
      | refine Ev.bind (laws_heldByteS_ev _ _ (by omega) (by decide) (by omega)) ?_
      | refine ev_ifp (by with_reducible rfl) ?_
      | refine ev_ifn (by simp only [bne_self_eq_false, Bool.false_eq_true, not_false_eq_true]) ?_
      | refine ev_ifp (by first | decide | omega) ?_
      | refine ev_ifn (by first | decide | omega) ?_
      | refine Ev.step (fun _ => laws_FnExactEncode.j0.eq_2 ..) ?_

end Go.Proofs.Ytfpghkgfodnjmaa.Pure
