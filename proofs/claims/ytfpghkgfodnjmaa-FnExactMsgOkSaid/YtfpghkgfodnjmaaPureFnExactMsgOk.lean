/- The pure statement of FnExactMsgOk: at every argument the law answers true. No condition. -/
import Derived.Test.YtfpghkgfodnjmaaMFnExactMsgOkx11
import Derived.Test.YtfpghkgfodnjmaaLib1
import Derived.Test.YtfpghkgfodnjmaaLib2
set_option linter.unusedVariables false
set_option linter.unusedSimpArgs false
namespace Go.Proofs.Ytfpghkgfodnjmaa.Pure
open Go.RowKit Go.Proofs.Ytfpghkgfodnjmaa.MFnExactMsgOk Go.Proofs.YtfpghkgfodnjmaaW.PrintWords Go.Proofs.YtfpghkgfodnjmaaW.PrintLast Go.Proofs.YtfpghkgfodnjmaaW.PrintMore Go.Proofs.YtfpghkgfodnjmaaLib

/-! laws_szMsg -/
theorem laws_szMsg_ok (a0 a1 a2 a3 a4 : Int) (cs : List S165) (ns : List S167) (hc : cs.length ≤ 9223372036854775807) (hn : ns.length ≤ 9223372036854775807) :
    ∃ z, laws_szMsg.f a0 a1 a2 a3 a4 cs ns 1048576 = some z ∧ (0 ≤ z → cs.length ≤ 1048576 ∧ ns.length ≤ 1048576) := by
  unfold laws_szMsg.f laws_szCellS.f laws_szNoteS.f
  rw [w64 (n := (1048576 : Int) - (cs.length : Int)) (by omega) (by omega)]
  by_cases h : (1048576 : Int) - (cs.length : Int) < 0
  · refine ⟨-1, ?_, fun k => absurd k (by decide)⟩
    rw [if_pos h]; rfl
  · rw [if_neg h, Option.bind_some, if_neg h, w64 (n := (1048576 : Int) - (cs.length : Int) - (ns.length : Int)) (by omega) (by omega)]
    by_cases h2 : (1048576 : Int) - (cs.length : Int) - (ns.length : Int) < 0
    · refine ⟨-1, ?_, fun k => absurd k (by decide)⟩
      rw [if_pos h2]; rfl
    · refine ⟨_, by rw [if_neg h2, Option.bind_some, if_neg h2], fun k => by omega⟩

/-! spec_l1In -/
theorem spec_l1In_eq (a b c : Int) : spec_l1In.f a b c = some (decide (b ≤ a ∧ a ≤ c)) := by
  unfold spec_l1In.f
  by_cases h : a ≥ b
  · rw [if_pos h]; congr 1; simp; omega
  · rw [if_neg h]; congr 1; simp; omega

/-! spec_l3Has -/
def hasBits (n : Int) : Int := if 1 ≤ n ∧ n ≤ 10 then rd [0, 0, 14, 8, 4, 1, 17, 17, 17, 1, 17] n else 0
theorem spec_l3Has_eq (n : Int) : spec_l3Has.f n = some (hasBits n) := by
  unfold spec_l3Has.f hasBits
  rw [spec_l1In_eq, Option.bind_some]
  by_cases h : 1 ≤ n ∧ n ≤ 10
  · rw [if_pos (by simpa using h), if_pos h, Option.bind_some, if_pos (by omega), if_pos (by simp; omega)]
  · rw [if_neg (by simpa using h), if_neg h]

/-! spec_l1Word -/
theorem spec_l1Word_eq (n : Int) : spec_l1Word.f n = some (decide (-2147483648 ≤ n ∧ n ≤ 2147483647)) := by
  unfold spec_l1Word.f
  rw [spec_l1In_eq]; rfl

/-! spec_ValOk -/
def valOk (r : Bool) (n : Int) : Bool := if r = true then decide (0 ≤ n ∧ n ≤ 1000000) else decide (-2147483648 ≤ n ∧ n ≤ 2147483647)
theorem spec_ValOk_eq (r : Bool) (n : Int) : spec_ValOk.f r n = some (valOk r n) := by
  unfold spec_ValOk.f valOk
  rw [spec_l1In_eq, spec_l1Word_eq]
  cases r <;> rfl

/-! spec_l3Cells -/
/-- A place of cells is right. -/
def cellGood (l : List S158) (i : Nat) : Bool := decide ((0 ≤ (rd_T158 l i).f0 ∧ (rd_T158 l i).f0 ≤ 7) ∧ valOk (rd_T158 l i).f1.f0 (rd_T158 l i).f1.f1 = true ∧ (0 < i → (rd_T158 l ((i : Int) - 1)).f0 < (rd_T158 l i).f0))
def cellsOk (l : List S158) : Bool := (List.range l.length).all (cellGood l) && decide ((l.length : Int) ≤ 8)
theorem spec_l3Cells_ev (l : List S158) (hl : l.length ≤ 140737488355328) : Ev (fun k => spec_l3Cells.f k l) (cellsOk l) := by
  have jt : ∀ i : Int, Ev (fun k => spec_l3Cells.j1 k l i true) false := fun i => by
    refine Ev.step (fun _ => spec_l3Cells.j1.eq_2 ..) ?_
    exact ev_ifp rfl (ev_some rfl)
  refine all_ev (F := fun k i => spec_l3Cells.l0 k l i) (fun i hi hg r hr => ?_) (fun i hi hg => ?_) ?_
  · simp only [cellGood, decide_eq_true_eq] at hg
    obtain ⟨g0, g1, g2⟩ := hg
    have jf : Ev (fun k => spec_l3Cells.j1 k l (i : Int) false) r := by
      refine Ev.step (fun _ => spec_l3Cells.j1.eq_2 ..) ?_
      rw [wnext i (by omega)]
      exact ev_ifn (by simp) hr
    refine Ev.step (fun _ => spec_l3Cells.l0.eq_2 ..) ?_
    refine ev_ifp (by omega) (ev_ifp (by omega) (ev_call (spec_l1In_eq ..) (ev_ifp (by simpa using g0) (ev_call (spec_ValOk_eq ..) (ev_ifp g1 ?_)))))
    refine ev_if (fun h0 => ?_) (fun h0 => jf)
    have h1 := g2 (by omega)
    rw [w64 (n := (i : Int) - 1) (by omega) (by omega)]
    refine ev_ifp (by omega) (ev_ifp (by omega) ?_)
    rw [decide_eq_false (by omega)]
    exact jf
  · simp only [cellGood, decide_eq_false_iff_not] at hg
    refine Ev.step (fun _ => spec_l3Cells.l0.eq_2 ..) ?_
    refine ev_ifp (by omega) (ev_ifp (by omega) (ev_call (spec_l1In_eq ..) (ev_if (fun g0 => ?_) (fun _ => jt _))))
    refine ev_call (spec_ValOk_eq ..) (ev_if (fun g1 => ?_) (fun _ => jt _))
    simp only [decide_eq_true_eq] at g0
    refine ev_if (fun h0 => ?_) (fun h0 => absurd ⟨g0, g1, fun h => absurd h (by omega)⟩ hg)
    rw [w64 (n := (i : Int) - 1) (by omega) (by omega)]
    refine ev_ifp (by omega) (ev_ifp (by omega) ?_)
    have h2 : ¬ (rd_T158 l ((i : Int) - 1)).f0 < (rd_T158 l i).f0 := fun h => hg ⟨g0, g1, fun _ => h⟩
    rw [decide_eq_true (by omega)]
    exact jt _
  · refine Ev.step (fun _ => spec_l3Cells.l0.eq_2 ..) ?_
    exact ev_ifn (by omega) (ev_some rfl)

/-! spec_NotesOk -/
/-- A place of notes is right. -/
def noteGood (l : List S161) (i : Nat) : Bool := decide ((1 ≤ (rd_T161 l i).f0 ∧ (rd_T161 l i).f0 ≤ 1000000) ∧ (1 ≤ (rd_T161 l i).f1 ∧ (rd_T161 l i).f1 ≤ 16777215) ∧ (0 < i → (rd_T161 l ((i : Int) - 1)).f0 < (rd_T161 l i).f0))
def notesOk (l : List S161) : Bool := (List.range l.length).all (noteGood l) && decide ((l.length : Int) ≤ 130)
theorem spec_NotesOk_ev (l : List S161) (hl : l.length ≤ 140737488355328) : Ev (fun k => spec_NotesOk.f k l) (notesOk l) := by
  have jt : ∀ i : Int, Ev (fun k => spec_NotesOk.j1 k l i true) false := fun i => by
    refine Ev.step (fun _ => spec_NotesOk.j1.eq_2 ..) ?_
    exact ev_ifp rfl (ev_some rfl)
  refine all_ev (F := fun k i => spec_NotesOk.l0 k l i) (fun i hi hg r hr => ?_) (fun i hi hg => ?_) ?_
  · simp only [noteGood, decide_eq_true_eq] at hg
    obtain ⟨g0, g1, g2⟩ := hg
    refine Ev.step (fun _ => spec_NotesOk.l0.eq_2 ..) ?_
    refine ev_ifp (by omega) (ev_ifp (by omega) (ev_call (spec_l1In_eq ..) (ev_ifp (by simpa using g0) (ev_call (spec_l1In_eq ..) (ev_ifp (by simpa using g1) ?_)))))
    have jf : Ev (fun k => spec_NotesOk.j1 k l (i : Int) false) r := by
      refine Ev.step (fun _ => spec_NotesOk.j1.eq_2 ..) ?_
      rw [wnext i (by omega)]
      exact ev_ifn (by simp) hr
    refine ev_if (fun h0 => ?_) (fun h0 => jf)
    have h1 := g2 (by omega)
    rw [w64 (n := (i : Int) - 1) (by omega) (by omega)]
    refine ev_ifp (by omega) (ev_ifp (by omega) ?_)
    rw [decide_eq_false (by omega)]
    exact jf
  · simp only [noteGood, decide_eq_false_iff_not] at hg
    refine Ev.step (fun _ => spec_NotesOk.l0.eq_2 ..) ?_
    refine ev_ifp (by omega) (ev_ifp (by omega) (ev_call (spec_l1In_eq ..) (ev_if (fun g0 => ?_) (fun _ => jt _))))
    refine ev_call (spec_l1In_eq ..) (ev_if (fun g1 => ?_) (fun _ => jt _))
    simp only [decide_eq_true_eq] at g0 g1
    refine ev_if (fun h0 => ?_) (fun h0 => absurd ⟨g0, g1, fun h => absurd h (by omega)⟩ hg)
    rw [w64 (n := (i : Int) - 1) (by omega) (by omega)]
    refine ev_ifp (by omega) (ev_ifp (by omega) ?_)
    have h2 : ¬ (rd_T161 l ((i : Int) - 1)).f0 < (rd_T161 l i).f0 := fun h => hg ⟨g0, g1, fun _ => h⟩
    rw [decide_eq_true (by omega)]
    exact jt _
  · refine Ev.step (fun _ => spec_NotesOk.l0.eq_2 ..) ?_
    exact ev_ifn (by omega) (ev_some rfl)

/-! spec_MsgOk -/
/-- A message is right: which fields each kind has. -/
def msgOk (a0 a1 a2 a3 a4 : Int) (cs : List S158) (ns : List S161) : Bool :=
  decide (1 ≤ a0 ∧ a0 ≤ 10) && (decide (1 ≤ a1 ∧ a1 ≤ 1000000) && ((if 5 ≤ a0 ∧ a0 ≤ 10 then decide (1 ≤ a2 ∧ a2 ≤ 1000000) else a2 == 0) && ((if a0 = 2 then decide (0 ≤ a3 ∧ a3 ≤ 255) else a3 == 0) && ((if a0 = 2 ∨ a0 = 4 then decide (0 ≤ a4 ∧ a4 ≤ 16777215) else a4 == 0) && ((if a0 = 2 ∨ a0 = 3 then cellsOk cs else (cs.length : Int) == 0) && (if a0 = 6 ∨ a0 = 7 ∨ a0 = 8 ∨ a0 = 10 then notesOk ns else (ns.length : Int) == 0))))))
theorem spec_MsgOk_j2 (x3 : Int) (x4 x5 p4 p8 p16 : Bool) (h4 : Go.bits .and .i64 x3 4 = 0 ↔ p4 = false) (h8 : Go.bits .and .i64 x3 8 = 0 ↔ p8 = false) (h16 : Go.bits .and .i64 x3 16 = 0 ↔ p16 = false) (a0 a1 a2 a3 a4 : Int) (cs : List S158) (ns : List S161) :
    Ev (fun k => spec_MsgOk.j2 k x3 x4 x5 a0 a1 a2 a3 a4 cs ns) (x4 && (x5 && ((if p4 = true then decide (0 ≤ a4 ∧ a4 ≤ 16777215) else a4 == 0) && ((p8 || (cs.length : Int) == 0) && (p16 || (ns.length : Int) == 0))))) := by
  refine Ev.step (fun _ => spec_MsgOk.j2.eq_2 ..) ?_
  have tail : Ev (fun _ : Nat => if Go.bits .and .i64 x3 8 = 0 then (if (cs.length : Int) = 0 then (if Go.bits .and .i64 x3 16 = 0 then some ((ns.length : Int) == 0) else some true) else some false) else (if Go.bits .and .i64 x3 16 = 0 then some ((ns.length : Int) == 0) else some true)) ((p8 || (cs.length : Int) == 0) && (p16 || (ns.length : Int) == 0)) := by
    have t16 : Ev (fun _ : Nat => if Go.bits .and .i64 x3 16 = 0 then some ((ns.length : Int) == 0) else some true) (p16 || (ns.length : Int) == 0) :=
      ev_if (fun h => ev_some (by rw [h16.1 h, Bool.false_or])) (fun h => ev_some (by cases p16 with | true => rfl | false => exact absurd (h16.2 rfl) h))
    cases p8 with
    | true => exact ev_ifn (fun h => by cases h8.1 h) (ev_to t16 (by simp))
    | false =>
      refine ev_ifp (h8.2 rfl) ?_
      by_cases hz : (cs.length : Int) = 0
      · exact ev_ifp hz (ev_to t16 (by simp [hz]))
      · exact ev_ifn hz (ev_some (by rw [beq_eq_false_iff_ne.2 hz]; simp))
  cases p4 with
  | false =>
    refine ev_ifp (h4.2 rfl) ?_
    cases x4 with
    | false => exact ev_ifn (by simp) (ev_some rfl)
    | true =>
      refine ev_ifp rfl ?_
      cases x5 with
      | false => exact ev_ifn (by simp) (ev_some rfl)
      | true =>
        refine ev_ifp rfl ?_
        by_cases hz : a4 = 0
        · exact ev_ifp hz (ev_to tail (by simp [hz]))
        · exact ev_ifn hz (ev_some (by simp [hz]))
  | true =>
    refine ev_ifn (fun h => by cases h4.1 h) (ev_call (spec_l1In_eq ..) ?_)
    by_cases hr : 0 ≤ a4 ∧ a4 ≤ 16777215
    · refine ev_ifp (by simpa using hr) ?_
      cases x4 with
      | false => exact ev_ifn (by simp) (ev_some rfl)
      | true =>
        refine ev_ifp rfl ?_
        cases x5 with
        | false => exact ev_ifn (by simp) (ev_some rfl)
        | true => exact ev_ifp rfl (ev_to tail (by simp [hr]))
    · refine ev_ifn (by simpa using hr) ?_
      cases x4 with
      | false => exact ev_ifn (by simp) (ev_some rfl)
      | true =>
        refine ev_ifp rfl ?_
        cases x5 with
        | false => exact ev_ifn (by simp) (ev_some rfl)
        | true => exact ev_ifp rfl (ev_ifn (by omega) (ev_some (by rw [decide_eq_false hr]; rfl)))
theorem spec_MsgOk_j1 (x3 : Int) (x4 p2 p4 p8 p16 : Bool) (h2 : Go.bits .and .i64 x3 2 = 0 ↔ p2 = false) (h4 : Go.bits .and .i64 x3 4 = 0 ↔ p4 = false) (h8 : Go.bits .and .i64 x3 8 = 0 ↔ p8 = false) (h16 : Go.bits .and .i64 x3 16 = 0 ↔ p16 = false) (a0 a1 a2 a3 a4 : Int) (cs : List S158) (ns : List S161) :
    Ev (fun k => spec_MsgOk.j1 k x3 x4 a0 a1 a2 a3 a4 cs ns) (x4 && ((if p2 = true then decide (0 ≤ a3 ∧ a3 ≤ 255) else a3 == 0) && ((if p4 = true then decide (0 ≤ a4 ∧ a4 ≤ 16777215) else a4 == 0) && ((p8 || (cs.length : Int) == 0) && (p16 || (ns.length : Int) == 0))))) := by
  refine Ev.step (fun _ => spec_MsgOk.j1.eq_2 ..) ?_
  cases p2 with
  | false => exact ev_ifp (h2.2 rfl) (ev_to (spec_MsgOk_j2 x3 _ _ _ _ _ h4 h8 h16 ..) (by simp))
  | true =>
    refine ev_ifn (fun h => by cases h2.1 h) (ev_call (spec_l1In_eq ..) ?_)
    by_cases hr : 0 ≤ a3 ∧ a3 ≤ 255
    · exact ev_ifp (by simpa using hr) (ev_to (spec_MsgOk_j2 x3 _ _ _ _ _ h4 h8 h16 ..) (by simp [hr]))
    · have hz : (a3 == 0) = false := by rw [beq_eq_false_iff_ne]; omega
      exact ev_ifn (by simpa using hr) (ev_to (spec_MsgOk_j2 x3 _ _ _ _ _ h4 h8 h16 ..) (by rw [hz, decide_eq_false hr]; simp))
theorem spec_MsgOk_j0 (x3 : Int) (p1 p2 p4 p8 p16 : Bool) (h1 : Go.bits .and .i64 x3 1 = 0 ↔ p1 = false) (h2 : Go.bits .and .i64 x3 2 = 0 ↔ p2 = false) (h4 : Go.bits .and .i64 x3 4 = 0 ↔ p4 = false) (h8 : Go.bits .and .i64 x3 8 = 0 ↔ p8 = false) (h16 : Go.bits .and .i64 x3 16 = 0 ↔ p16 = false) (a0 a1 a2 a3 a4 : Int) (cs : List S158) (ns : List S161) :
    Ev (fun k => spec_MsgOk.j0 k x3 false a0 a1 a2 a3 a4 cs ns) ((if p1 = true then decide (1 ≤ a2 ∧ a2 ≤ 1000000) else a2 == 0) && ((if p2 = true then decide (0 ≤ a3 ∧ a3 ≤ 255) else a3 == 0) && ((if p4 = true then decide (0 ≤ a4 ∧ a4 ≤ 16777215) else a4 == 0) && ((p8 || (cs.length : Int) == 0) && (p16 || (ns.length : Int) == 0))))) := by
  refine Ev.step (fun _ => spec_MsgOk.j0.eq_2 ..) (ev_ifn (by simp) ?_)
  cases p1 with
  | false => exact ev_ifp (h1.2 rfl) (ev_to (spec_MsgOk_j1 x3 _ _ _ _ _ h2 h4 h8 h16 ..) (by simp))
  | true =>
    refine ev_ifn (fun h => by cases h1.1 h) (ev_call (spec_l1In_eq ..) ?_)
    by_cases hr : 1 ≤ a2 ∧ a2 ≤ 1000000
    · exact ev_ifp (by simpa using hr) (ev_to (spec_MsgOk_j1 x3 _ _ _ _ _ h2 h4 h8 h16 ..) (by simp [hr]))
    · exact ev_ifn (by simpa using hr) (ev_to (spec_MsgOk_j1 x3 _ _ _ _ _ h2 h4 h8 h16 ..) (by rw [decide_eq_false hr]; simp))
theorem spec_MsgOk_ev (a0 a1 a2 a3 a4 : Int) (cs : List S158) (ns : List S161) (hc : cs.length ≤ 140737488355328) (hn : ns.length ≤ 140737488355328) : Ev (fun k => spec_MsgOk.f k a0 a1 a2 a3 a4 cs ns) (msgOk a0 a1 a2 a3 a4 cs ns) := by
  have jT : ∀ x3, Ev (fun k => spec_MsgOk.j0 k x3 true a0 a1 a2 a3 a4 cs ns) false := fun x3 => Ev.step (fun _ => spec_MsgOk.j0.eq_2 ..) (ev_ifp rfl (ev_some rfl))
  unfold spec_MsgOk.f
  refine ev_call (spec_l3Has_eq _) (ev_call (spec_l1In_eq ..) ?_)
  by_cases h0 : 1 ≤ a0 ∧ a0 ≤ 10
  · refine ev_ifp (by simpa using h0) (ev_call (spec_l1In_eq ..) ?_)
    by_cases h1 : 1 ≤ a1 ∧ a1 ≤ 1000000
    · refine ev_ifp (by simpa using h1) (Ev.bind (spec_l3Cells_ev cs hc) ?_)
      cases hcs : cellsOk cs with
      | false =>
        refine ev_ifn (by simp) (ev_to (jT _) ?_)
        have hz : ((cs.length : Int) == 0) = false := by
          cases cs with
          | nil => simp [cellsOk] at hcs
          | cons x r => rw [beq_eq_false_iff_ne, List.length_cons]; omega
        unfold msgOk; rw [hcs, hz]; simp
      | true =>
        refine ev_ifp rfl (Ev.bind (spec_NotesOk_ev ns hn) ?_)
        cases hns : notesOk ns with
        | false =>
          refine ev_to (jT _) ?_
          have hz : ((ns.length : Int) == 0) = false := by
            cases ns with
            | nil => simp [notesOk] at hns
            | cons x r => rw [beq_eq_false_iff_ne, List.length_cons]; omega
          unfold msgOk; rw [hns, hz]; simp
        | true =>
          have h10 : a0 = 1 ∨ a0 = 2 ∨ a0 = 3 ∨ a0 = 4 ∨ a0 = 5 ∨ a0 = 6 ∨ a0 = 7 ∨ a0 = 8 ∨ a0 = 9 ∨ a0 = 10 := by omega
          rcases h10 with rfl | rfl | rfl | rfl | rfl | rfl | rfl | rfl | rfl | rfl
          · exact ev_to (spec_MsgOk_j0 _ false false false false false (by decide) (by decide) (by decide) (by decide) (by decide) ..) (by simp [msgOk, hcs, hns, h1])
          · exact ev_to (spec_MsgOk_j0 _ false true true true false (by decide) (by decide) (by decide) (by decide) (by decide) ..) (by simp [msgOk, hcs, hns, h1])
          · exact ev_to (spec_MsgOk_j0 _ false false false true false (by decide) (by decide) (by decide) (by decide) (by decide) ..) (by simp [msgOk, hcs, hns, h1])
          · exact ev_to (spec_MsgOk_j0 _ false false true false false (by decide) (by decide) (by decide) (by decide) (by decide) ..) (by simp [msgOk, hcs, hns, h1])
          · exact ev_to (spec_MsgOk_j0 _ true false false false false (by decide) (by decide) (by decide) (by decide) (by decide) ..) (by simp [msgOk, hcs, hns, h1])
          · exact ev_to (spec_MsgOk_j0 _ true false false false true (by decide) (by decide) (by decide) (by decide) (by decide) ..) (by simp [msgOk, hcs, hns, h1])
          · exact ev_to (spec_MsgOk_j0 _ true false false false true (by decide) (by decide) (by decide) (by decide) (by decide) ..) (by simp [msgOk, hcs, hns, h1])
          · exact ev_to (spec_MsgOk_j0 _ true false false false true (by decide) (by decide) (by decide) (by decide) (by decide) ..) (by simp [msgOk, hcs, hns, h1])
          · exact ev_to (spec_MsgOk_j0 _ true false false false false (by decide) (by decide) (by decide) (by decide) (by decide) ..) (by simp [msgOk, hcs, hns, h1])
          · exact ev_to (spec_MsgOk_j0 _ true false false false true (by decide) (by decide) (by decide) (by decide) (by decide) ..) (by simp [msgOk, hcs, hns, h1])
    · exact ev_ifn (by simpa using h1) (ev_to (jT _) (by unfold msgOk; rw [decide_eq_false h1]; simp))
  · exact ev_ifn (by simpa using h0) (ev_to (jT _) (by unfold msgOk; rw [decide_eq_false h0]; simp))

/-! laws_toCellS -/
def toCell (x : S165) : S158 := ⟨x.f0, ⟨x.f1.f0, x.f1.f1⟩⟩
theorem laws_toCellS_ev (x : List S165) (hx : x.length ≤ 10000000) : Ev (fun k => laws_toCellS.f k x) (x.map toCell) := by
  unfold laws_toCellS.f
  refine ev_ifp (by omega) (ev_ifp (by omega) ?_)
  refine copy_ev (F := fun k acc i => laws_toCellS.l0 k x acc i) (fun i hi acc hl r hr => ?_) (fun acc hl => ?_) _ (by simp)
  · refine Ev.step (fun _ => laws_toCellS.l0.eq_2 ..) ?_
    have e : rd_T165 x (i : Int) = x[i] := by simp [rd_T165, List.getD, hi]
    rw [e]
    refine ev_ifp (by omega) (ev_ifp (by omega) (ev_call rfl (ev_ifp (by omega) ?_)))
    rw [wnext i (by omega)]
    simpa [toCell] using hr
  · refine Ev.step (fun _ => laws_toCellS.l0.eq_2 ..) ?_
    exact ev_ifn (by omega) (ev_some rfl)

/-! laws_toNoteS -/
def toNote (x : S167) : S161 := ⟨x.f0, x.f1⟩
theorem laws_toNoteS_ev (x : List S167) (hx : x.length ≤ 10000000) : Ev (fun k => laws_toNoteS.f k x) (x.map toNote) := by
  unfold laws_toNoteS.f
  refine ev_ifp (by omega) (ev_ifp (by omega) ?_)
  refine copy_ev (F := fun k acc i => laws_toNoteS.l0 k x acc i) (fun i hi acc hl r hr => ?_) (fun acc hl => ?_) _ (by simp)
  · refine Ev.step (fun _ => laws_toNoteS.l0.eq_2 ..) ?_
    have e : rd_T167 x (i : Int) = x[i] := by simp [rd_T167, List.getD, hi]
    rw [e]
    refine ev_ifp (by omega) (ev_ifp (by omega) (ev_call rfl (ev_ifp (by omega) ?_)))
    rw [wnext i (by omega)]
    simpa [toNote] using hr
  · refine Ev.step (fun _ => laws_toNoteS.l0.eq_2 ..) ?_
    exact ev_ifn (by omega) (ev_some rfl)

/-! laws_toMsg -/
theorem laws_toMsg_ev (a0 a1 a2 a3 a4 : Int) (cs : List S165) (ns : List S167) (hc : cs.length ≤ 10000000) (hn : ns.length ≤ 10000000) : Ev (fun k => laws_toMsg.f k a0 a1 a2 a3 a4 cs ns) (a0, a1, a2, a3, a4, cs.map toCell, ns.map toNote) := by
  unfold laws_toMsg.f
  exact Ev.bind (laws_toCellS_ev cs hc) (Ev.bind (laws_toNoteS_ev ns hn) (ev_some rfl))

/-! impl_within -/
theorem impl_within_eq (a b c : Int) : impl_within.f a b c = some (decide (b ≤ a ∧ a ≤ c)) := by
  unfold impl_within.f
  by_cases h : a ≥ b
  · rw [if_pos h]; congr 1; simp; omega
  · rw [if_neg h]; congr 1; simp; omega

/-! impl_isId -/
theorem impl_isId_eq (n : Int) : impl_isId.f n = some (decide (1 ≤ n ∧ n ≤ 1000000)) := by
  unfold impl_isId.f
  rw [impl_within_eq]; rfl

/-! impl_isWord -/
theorem impl_isWord_eq (n : Int) : impl_isWord.f n = some (decide (-2147483648 ≤ n ∧ n ≤ 2147483647)) := by
  unfold impl_isWord.f
  rw [impl_within_eq]; rfl

/-! impl_ValOk -/
theorem impl_ValOk_eq (r : Bool) (n : Int) : impl_ValOk.f r n = some (valOk r n) := by
  unfold impl_ValOk.f valOk
  rw [impl_within_eq, impl_isWord_eq]
  cases r <;> rfl

/-! impl_cellsOk -/
theorem impl_cellsOk_ev (l : List S158) (hl : l.length ≤ 140737488355328) : Ev (fun k => impl_cellsOk.f k l) (cellsOk l) := by
  have jt : ∀ i : Int, Ev (fun k => impl_cellsOk.j1 k l l (l.length : Int) i true) false := fun i => by
    refine Ev.step (fun _ => impl_cellsOk.j1.eq_2 ..) ?_
    exact ev_ifp rfl (ev_some rfl)
  refine all_ev (F := fun k i => impl_cellsOk.l0 k l l (l.length : Int) i) (fun i hi hg r hr => ?_) (fun i hi hg => ?_) ?_
  · simp only [cellGood, decide_eq_true_eq] at hg
    obtain ⟨g0, g1, g2⟩ := hg
    have jf : Ev (fun k => impl_cellsOk.j1 k l l (l.length : Int) (i : Int) false) r := by
      refine Ev.step (fun _ => impl_cellsOk.j1.eq_2 ..) ?_
      rw [wnext i (by omega)]
      exact ev_ifn (by simp) hr
    refine Ev.step (fun _ => impl_cellsOk.l0.eq_2 ..) ?_
    refine ev_ifp (by omega) (ev_ifp (by omega) (ev_ifp (by omega) (ev_call (impl_within_eq ..) (ev_ifp (by simpa using g0) (ev_call (impl_ValOk_eq ..) (ev_ifp g1 ?_))))))
    refine ev_if (fun h0 => ?_) (fun h0 => jf)
    have h1 := g2 (by omega)
    rw [w64 (n := (i : Int) - 1) (by omega) (by omega)]
    refine ev_ifp (by omega) (ev_ifp (by omega) ?_)
    rw [decide_eq_false (by omega)]
    exact jf
  · simp only [cellGood, decide_eq_false_iff_not] at hg
    refine Ev.step (fun _ => impl_cellsOk.l0.eq_2 ..) ?_
    refine ev_ifp (by omega) (ev_ifp (by omega) (ev_ifp (by omega) (ev_call (impl_within_eq ..) (ev_if (fun g0 => ?_) (fun _ => jt _)))))
    refine ev_call (impl_ValOk_eq ..) (ev_if (fun g1 => ?_) (fun _ => jt _))
    simp only [decide_eq_true_eq] at g0
    refine ev_if (fun h0 => ?_) (fun h0 => absurd ⟨g0, g1, fun h => absurd h (by omega)⟩ hg)
    rw [w64 (n := (i : Int) - 1) (by omega) (by omega)]
    refine ev_ifp (by omega) (ev_ifp (by omega) ?_)
    have h2 : ¬ (rd_T158 l ((i : Int) - 1)).f0 < (rd_T158 l i).f0 := fun h => hg ⟨g0, g1, fun _ => h⟩
    rw [decide_eq_true (by omega)]
    exact jt _
  · refine Ev.step (fun _ => impl_cellsOk.l0.eq_2 ..) ?_
    exact ev_ifn (by omega) (ev_some rfl)

/-! impl_NotesOk -/
theorem impl_NotesOk_ev (l : List S161) (hl : l.length ≤ 140737488355328) : Ev (fun k => impl_NotesOk.f k l) (notesOk l) := by
  have jt : ∀ i : Int, Ev (fun k => impl_NotesOk.j1 k l l (l.length : Int) i true) false := fun i => by
    refine Ev.step (fun _ => impl_NotesOk.j1.eq_2 ..) ?_
    exact ev_ifp rfl (ev_some rfl)
  refine all_ev (F := fun k i => impl_NotesOk.l0 k l l (l.length : Int) i) (fun i hi hg r hr => ?_) (fun i hi hg => ?_) ?_
  · simp only [noteGood, decide_eq_true_eq] at hg
    obtain ⟨g0, g1, g2⟩ := hg
    refine Ev.step (fun _ => impl_NotesOk.l0.eq_2 ..) ?_
    refine ev_ifp (by omega) (ev_ifp (by omega) (ev_ifp (by omega) (ev_call (impl_isId_eq ..) (ev_ifp (by simpa using g0) (ev_call (impl_within_eq ..) (ev_ifp (by simpa using g1) ?_))))))
    have jf : Ev (fun k => impl_NotesOk.j1 k l l (l.length : Int) (i : Int) false) r := by
      refine Ev.step (fun _ => impl_NotesOk.j1.eq_2 ..) ?_
      rw [wnext i (by omega)]
      exact ev_ifn (by simp) hr
    refine ev_if (fun h0 => ?_) (fun h0 => jf)
    have h1 := g2 (by omega)
    rw [w64 (n := (i : Int) - 1) (by omega) (by omega)]
    refine ev_ifp (by omega) (ev_ifp (by omega) ?_)
    rw [decide_eq_false (by omega)]
    exact jf
  · simp only [noteGood, decide_eq_false_iff_not] at hg
    refine Ev.step (fun _ => impl_NotesOk.l0.eq_2 ..) ?_
    refine ev_ifp (by omega) (ev_ifp (by omega) (ev_ifp (by omega) (ev_call (impl_isId_eq ..) (ev_if (fun g0 => ?_) (fun _ => jt _)))))
    refine ev_call (impl_within_eq ..) (ev_if (fun g1 => ?_) (fun _ => jt _))
    simp only [decide_eq_true_eq] at g0 g1
    refine ev_if (fun h0 => ?_) (fun h0 => absurd ⟨g0, g1, fun h => absurd h (by omega)⟩ hg)
    rw [w64 (n := (i : Int) - 1) (by omega) (by omega)]
    refine ev_ifp (by omega) (ev_ifp (by omega) ?_)
    have h2 : ¬ (rd_T161 l ((i : Int) - 1)).f0 < (rd_T161 l i).f0 := fun h => hg ⟨g0, g1, fun _ => h⟩
    rw [decide_eq_true (by omega)]
    exact jt _
  · refine Ev.step (fun _ => impl_NotesOk.l0.eq_2 ..) ?_
    exact ev_ifn (by omega) (ev_some rfl)

/-! impl_MsgOk -/
def msgAnd (a0 a1 : Int) (x3 x4 x5 x6 x7 : Bool) : Bool := decide (1 ≤ a0 ∧ a0 ≤ 10) && (decide (1 ≤ a1 ∧ a1 ≤ 1000000) && (x3 && (x4 && (x5 && (x6 && x7)))))
theorem impl_MsgOk_j3 (x3 x4 x5 x6 x7 : Bool) (a0 a1 a2 a3 a4 : Int) (cs : List S158) (ns : List S161) : Ev (fun k => impl_MsgOk.j3 k x3 x4 x5 x6 x7 a0 a1 a2 a3 a4 cs ns) (msgAnd a0 a1 x3 x4 x5 x6 x7) := by
  refine Ev.step (fun _ => impl_MsgOk.j3.eq_2 ..) (ev_call (impl_within_eq ..) ?_)
  unfold msgAnd
  by_cases h : 1 ≤ a0 ∧ a0 ≤ 10
  · refine ev_ifp (by simpa using h) (ev_call (impl_isId_eq ..) ?_)
    by_cases h1 : 1 ≤ a1 ∧ a1 ≤ 1000000
    · refine ev_ifp (by simpa using h1) ?_
      rw [decide_eq_true h, decide_eq_true h1]
      cases x3 <;> cases x4 <;> cases x5 <;> cases x6 <;> exact ev_some rfl
    · exact ev_ifn (by simpa using h1) (ev_some (by rw [decide_eq_false h1, Bool.false_and, Bool.and_false]))
  · exact ev_ifn (by simpa using h) (ev_some (by rw [decide_eq_false h, Bool.false_and]))
theorem impl_MsgOk_j2 (c x3 x4 x5 x6 x7 : Bool) (a0 a1 a2 a3 a4 : Int) (cs : List S158) (ns : List S161) (hn : ns.length ≤ 140737488355328) : Ev (fun k => impl_MsgOk.j2 k x3 x4 x5 x6 x7 c a0 a1 a2 a3 a4 cs ns) (msgAnd a0 a1 x3 x4 x5 x6 (if c = true then notesOk ns else x7)) := by
  refine Ev.step (fun _ => impl_MsgOk.j2.eq_2 ..) ?_
  cases c with
  | true => exact ev_ifp rfl (Ev.bind (impl_NotesOk_ev ns hn) (impl_MsgOk_j3 ..))
  | false => exact ev_ifn (by simp) (impl_MsgOk_j3 ..)
theorem impl_MsgOk_j1 (x3 x4 x5 x6 x7 : Bool) (a0 a1 a2 a3 a4 : Int) (cs : List S158) (ns : List S161) (hc : cs.length ≤ 140737488355328) (hn : ns.length ≤ 140737488355328) : Ev (fun k => impl_MsgOk.j1 k x3 x4 x5 x6 x7 a0 a1 a2 a3 a4 cs ns) (msgAnd a0 a1 x3 (if a0 = 2 then decide (0 ≤ a3 ∧ a3 ≤ 255) else x4) (if a0 = 2 ∨ a0 = 4 then decide (0 ≤ a4 ∧ a4 ≤ 16777215) else x5) (if a0 = 2 ∨ a0 = 3 then cellsOk cs else x6) (if a0 = 6 ∨ a0 = 7 ∨ a0 = 8 ∨ a0 = 10 then notesOk ns else x7)) := by
  refine Ev.step (fun _ => impl_MsgOk.j1.eq_2 ..) ?_
  by_cases h2 : a0 = 2
  · exact ev_ifp h2 (ev_call (impl_within_eq ..) (ev_call (impl_within_eq ..) (Ev.bind (impl_cellsOk_ev cs hc) (ev_to (impl_MsgOk_j3 ..) (by simp [h2])))))
  · refine ev_ifn h2 ?_
    by_cases h3 : a0 = 3
    · exact ev_ifp h3 (Ev.bind (impl_cellsOk_ev cs hc) (ev_to (impl_MsgOk_j3 ..) (by simp [h3])))
    · refine ev_ifn h3 ?_
      by_cases h4 : a0 = 4
      · exact ev_ifp h4 (ev_call (impl_within_eq ..) (ev_to (impl_MsgOk_j3 ..) (by simp [h4])))
      · refine ev_ifn h4 ?_
        by_cases h6 : a0 = 6
        · exact ev_ifp h6 (ev_to (impl_MsgOk_j2 _ _ _ _ _ _ _ _ _ _ _ _ _ hn) (by simp [h6]))
        · refine ev_ifn h6 ?_
          by_cases h7 : a0 = 7
          · exact ev_ifp h7 (ev_to (impl_MsgOk_j2 _ _ _ _ _ _ _ _ _ _ _ _ _ hn) (by simp [h7]))
          · refine ev_ifn h7 ?_
            by_cases h8 : a0 = 8
            · exact ev_ifp h8 (ev_to (impl_MsgOk_j2 _ _ _ _ _ _ _ _ _ _ _ _ _ hn) (by simp [h8]))
            · exact ev_ifn h8 (ev_to (impl_MsgOk_j2 _ _ _ _ _ _ _ _ _ _ _ _ _ hn) (by simp [h2, h3, h4, h6, h7, h8]))
theorem impl_MsgOk_j0 (c x3 x4 x5 x6 x7 : Bool) (a0 a1 a2 a3 a4 : Int) (cs : List S158) (ns : List S161) (hc : cs.length ≤ 140737488355328) (hn : ns.length ≤ 140737488355328) : Ev (fun k => impl_MsgOk.j0 k x3 x4 x5 x6 x7 c a0 a1 a2 a3 a4 cs ns) (msgAnd a0 a1 (if c = true then decide (1 ≤ a2 ∧ a2 ≤ 1000000) else x3) (if a0 = 2 then decide (0 ≤ a3 ∧ a3 ≤ 255) else x4) (if a0 = 2 ∨ a0 = 4 then decide (0 ≤ a4 ∧ a4 ≤ 16777215) else x5) (if a0 = 2 ∨ a0 = 3 then cellsOk cs else x6) (if a0 = 6 ∨ a0 = 7 ∨ a0 = 8 ∨ a0 = 10 then notesOk ns else x7)) := by
  refine Ev.step (fun _ => impl_MsgOk.j0.eq_2 ..) ?_
  cases c with
  | true => exact ev_ifp rfl (ev_call (impl_isId_eq ..) (impl_MsgOk_j1 _ _ _ _ _ _ _ _ _ _ _ _ hc hn))
  | false => exact ev_ifn (by simp) (impl_MsgOk_j1 _ _ _ _ _ _ _ _ _ _ _ _ hc hn)
theorem impl_MsgOk_ev (a0 a1 a2 a3 a4 : Int) (cs : List S158) (ns : List S161) (hc : cs.length ≤ 140737488355328) (hn : ns.length ≤ 140737488355328) : Ev (fun k => impl_MsgOk.f k a0 a1 a2 a3 a4 cs ns) (msgOk a0 a1 a2 a3 a4 cs ns) := by
  have key : ∀ c : Bool, (c = true ↔ (5 ≤ a0 ∧ a0 ≤ 10)) → Ev (fun k => impl_MsgOk.j0 k (a2 == 0) (a3 == 0) (a4 == 0) ((cs.length : Int) == 0) ((ns.length : Int) == 0) c a0 a1 a2 a3 a4 cs ns) (msgOk a0 a1 a2 a3 a4 cs ns) := fun c hk => by
    refine ev_to (impl_MsgOk_j0 c _ _ _ _ _ a0 a1 a2 a3 a4 cs ns hc hn) ?_
    unfold msgOk msgAnd
    by_cases h : 5 ≤ a0 ∧ a0 ≤ 10
    · rw [hk.2 h, if_pos rfl, if_pos h]
    · rw [if_neg (fun e => h (hk.1 e)), if_neg h]
  unfold impl_MsgOk.f
  by_cases h5 : a0 = 5
  · exact ev_ifp h5 (key _ (by simp [h5]))
  · refine ev_ifn h5 ?_
    by_cases h6 : a0 = 6
    · exact ev_ifp h6 (key _ (by simp [h6]))
    · refine ev_ifn h6 ?_
      by_cases h7 : a0 = 7
      · exact ev_ifp h7 (key _ (by simp [h7]))
      · refine ev_ifn h7 ?_
        by_cases h8 : a0 = 8
        · exact ev_ifp h8 (key _ (by simp [h8]))
        · refine ev_ifn h8 ?_
          by_cases h9 : a0 = 9
          · exact ev_ifp h9 (key _ (by simp [h9]))
          · exact ev_ifn h9 (key _ (by rw [beq_iff_eq]; omega))

/-! laws_eqCellS -/
theorem laws_eqCellS_ev (x : List S158) (hx : x.length ≤ 10000000) : Ev (fun k => laws_eqCellS.f k x x) true := by
  unfold laws_eqCellS.f
  refine ev_ifp rfl ?_
  refine ev_to (all_ev (F := fun k i => laws_eqCellS.l0 k x x i) (n := x.length) (good := fun _ => true) (fin := true) (fun i hi hg r hr => ?_) (fun i hi hg => by cases hg) ?_) (by simp)
  · refine Ev.step (fun _ => laws_eqCellS.l0.eq_2 ..) ?_
    refine ev_ifp (by omega) (ev_ifp (by omega) (ev_ifp (by omega) (ev_call (a := true) (by simp [laws_eqCell.f, laws_eqVal.f]) (ev_ifp rfl ?_))))
    rw [wnext i (by omega)]
    exact hr
  · refine Ev.step (fun _ => laws_eqCellS.l0.eq_2 ..) ?_
    exact ev_ifn (by omega) (ev_some rfl)

/-! laws_eqNoteS -/
theorem laws_eqNoteS_ev (x : List S161) (hx : x.length ≤ 10000000) : Ev (fun k => laws_eqNoteS.f k x x) true := by
  unfold laws_eqNoteS.f
  refine ev_ifp rfl ?_
  refine ev_to (all_ev (F := fun k i => laws_eqNoteS.l0 k x x i) (n := x.length) (good := fun _ => true) (fin := true) (fun i hi hg r hr => ?_) (fun i hi hg => by cases hg) ?_) (by simp)
  · refine Ev.step (fun _ => laws_eqNoteS.l0.eq_2 ..) ?_
    refine ev_ifp (by omega) (ev_ifp (by omega) (ev_ifp (by omega) (ev_call (a := true) (by simp [laws_eqNote.f]) (ev_ifp rfl ?_))))
    rw [wnext i (by omega)]
    exact hr
  · refine Ev.step (fun _ => laws_eqNoteS.l0.eq_2 ..) ?_
    exact ev_ifn (by omega) (ev_some rfl)

/-! laws_eqMsg -/
theorem laws_eqMsg_ev (a0 a1 a2 a3 a4 : Int) (cs : List S158) (ns : List S161) (hc : cs.length ≤ 10000000) (hn : ns.length ≤ 10000000) : Ev (fun k => laws_eqMsg.f k a0 a1 a2 a3 a4 cs ns a0 a1 a2 a3 a4 cs ns) true := by
  unfold laws_eqMsg.f
  exact ev_ifp rfl (ev_ifp rfl (ev_ifp rfl (ev_ifp rfl (ev_ifp rfl (Ev.bind (laws_eqCellS_ev cs hc) (ev_ifp rfl (Ev.bind (laws_eqNoteS_ev ns hn) (ev_ifp rfl (ev_some rfl)))))))))

theorem FnExactMsgOk (a0 a1 a2 a3 a4 : Int) (cs : List S165) (ns : List S167) (_ : (Lit.int .i64 a0).wf = true) (_ : (Lit.int .i64 a1).wf = true) (_ : (Lit.int .i64 a2).wf = true) (_ : (Lit.int .i64 a3).wf = true) (_ : (Lit.int .i64 a4).wf = true)
    (hcs : cs.length ≤ maxLen ∧ ∀ x ∈ cs, (Lit.int .i64 x.f0).wf = true ∧ True ∧ (Lit.int .i64 x.f1.f1).wf = true) (hns : ns.length ≤ maxLen ∧ ∀ x ∈ ns, (Lit.int .i64 x.f0).wf = true ∧ (Lit.int .i64 x.f1).wf = true) : ∃ k, laws_FnExactMsgOk.f k a0 a1 a2 a3 a4 cs ns = some true := by
  have h1 := hcs.1
  have h2 := hns.1
  unfold maxLen at h1 h2
  refine Ev.rounds (r := true) ?_
  unfold laws_FnExactMsgOk.f
  obtain ⟨z, hz, hz2⟩ := laws_szMsg_ok a0 a1 a2 a3 a4 cs ns (by omega) (by omega)
  refine ev_call hz (ev_if (fun _ => ev_some rfl) (fun h => ?_))
  obtain ⟨h3, h4⟩ := hz2 (by omega)
  have t := laws_toMsg_ev a0 a1 a2 a3 a4 cs ns (by omega) (by omega)
  have hc : (cs.map toCell).length ≤ 10000000 := by rw [List.length_map]; omega
  have hn : (ns.map toNote).length ≤ 10000000 := by rw [List.length_map]; omega
  have e1 := spec_MsgOk_ev a0 a1 a2 a3 a4 (cs.map toCell) (ns.map toNote) (by omega) (by omega)
  have e2 := impl_MsgOk_ev a0 a1 a2 a3 a4 (cs.map toCell) (ns.map toNote) (by omega) (by omega)
  have e3 := laws_eqMsg_ev a0 a1 a2 a3 a4 (cs.map toCell) (ns.map toNote) hc hn
  exact Ev.bind t (Ev.bind e1 (Ev.bind t (Ev.bind e2 (ev_ifn (by simp) (Ev.bind t (Ev.bind e3 (ev_ifp rfl (ev_some rfl))))))))

end Go.Proofs.Ytfpghkgfodnjmaa.Pure
