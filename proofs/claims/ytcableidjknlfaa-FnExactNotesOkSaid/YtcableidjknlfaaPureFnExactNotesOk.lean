/- The pure statement of FnExactNotesOk: at every argument the law answers true. No condition. -/
import Derived.Test.YtcableidjknlfaaPFnExactNotesOkx4
import Derived.Test.YtcableidjknlfaaLib1
import Derived.Test.YtcableidjknlfaaLib2
set_option linter.unusedVariables false
set_option linter.unusedSimpArgs false
namespace Go.Proofs.Ytcableidjknlfaa.Pure
open Go.RowKit Go.Proofs.Ytcableidjknlfaa.PFnExactNotesOk Go.Proofs.YtcableidjknlfaaW.PrintWords Go.Proofs.YtcableidjknlfaaW.PrintLast Go.Proofs.YtcableidjknlfaaW.PrintMore Go.Proofs.YtcableidjknlfaaLib

/-! spec_l1In -/
theorem spec_l1In_eq (a b c : Int) : spec_l1In.f a b c = some (decide (b ≤ a ∧ a ≤ c)) := by
  unfold spec_l1In.f
  by_cases h : a ≥ b
  · rw [if_pos h]; congr 1; simp; omega
  · rw [if_neg h]; congr 1; simp; omega

/-! spec_NotesOk -/
/-- A place of notes is right. -/
def noteGood (l : List S67) (i : Nat) : Bool := decide ((1 ≤ (rd_T67 l i).f0 ∧ (rd_T67 l i).f0 ≤ 1000000) ∧ (1 ≤ (rd_T67 l i).f1 ∧ (rd_T67 l i).f1 ≤ 16777215) ∧ (0 < i → (rd_T67 l ((i : Int) - 1)).f0 < (rd_T67 l i).f0))
def notesOk (l : List S67) : Bool := (List.range l.length).all (noteGood l) && decide ((l.length : Int) ≤ 130)
theorem spec_NotesOk_ev (l : List S67) (hl : l.length ≤ 140737488355328) : Ev (fun k => spec_NotesOk.f k l) (notesOk l) := by
  refine all_ev (F := fun k i => spec_NotesOk.l0 k l i) (fun i hi hg r hr => ?_) (fun i hi hg => ?_) ?_
  · simp only [noteGood, decide_eq_true_eq] at hg
    obtain ⟨g0, g1, g2⟩ := hg
    refine Ev.step (fun _ => spec_NotesOk.l0.eq_2 ..) ?_
    refine ev_ifp (by omega) (ev_ifp (by omega) (ev_call (spec_l1In_eq ..) (ev_ifp (by simpa using g0) (ev_call (spec_l1In_eq ..) (ev_ifp (by simpa using g1) ?_)))))
    simp only [wnext i (by omega)]
    refine ev_if (fun h0 => ?_) (fun h0 => hr)
    have h1 := g2 (by omega)
    rw [w64 (n := (i : Int) - 1) (by omega) (by omega)]
    exact ev_ifp (by omega) (ev_ifp (by omega) (ev_ifn (by omega) hr))
  · simp only [noteGood, decide_eq_false_iff_not] at hg
    refine Ev.step (fun _ => spec_NotesOk.l0.eq_2 ..) ?_
    refine ev_ifp (by omega) (ev_ifp (by omega) (ev_call (spec_l1In_eq ..) (ev_if (fun g0 => ?_) (fun _ => ev_some rfl))))
    refine ev_call (spec_l1In_eq ..) (ev_if (fun g1 => ?_) (fun _ => ev_some rfl))
    simp only [decide_eq_true_eq] at g0 g1
    refine ev_if (fun h0 => ?_) (fun h0 => absurd ⟨g0, g1, fun h => absurd h (by omega)⟩ hg)
    rw [w64 (n := (i : Int) - 1) (by omega) (by omega)]
    refine ev_ifp (by omega) (ev_ifp (by omega) (ev_ifp ?_ (ev_some rfl)))
    by_cases h2 : (rd_T67 l ((i : Int) - 1)).f0 < (rd_T67 l i).f0
    · exact absurd ⟨g0, g1, fun _ => h2⟩ hg
    · omega
  · refine Ev.step (fun _ => spec_NotesOk.l0.eq_2 ..) ?_
    exact ev_ifn (by omega) (ev_some rfl)

/-! laws_toNoteS -/
def toNote (x : S69) : S67 := ⟨x.f0, x.f1⟩
theorem laws_toNoteS_ev (x : List S69) (hx : x.length ≤ 10000000) : Ev (fun k => laws_toNoteS.f k x) (x.map toNote) := by
  unfold laws_toNoteS.f
  refine ev_ifp (by omega) (ev_ifp (by omega) ?_)
  refine copy_ev (F := fun k acc i => laws_toNoteS.l0 k x acc i) (fun i hi acc hl r hr => ?_) (fun acc hl => ?_) _ (by simp)
  · refine Ev.step (fun _ => laws_toNoteS.l0.eq_2 ..) ?_
    have e : rd_T69 x (i : Int) = x[i] := by simp [rd_T69, List.getD, hi]
    rw [e]
    refine ev_ifp (by omega) (ev_ifp (by omega) (ev_call rfl (ev_ifp (by omega) ?_)))
    rw [wnext i (by omega)]
    simpa [toNote] using hr
  · refine Ev.step (fun _ => laws_toNoteS.l0.eq_2 ..) ?_
    exact ev_ifn (by omega) (ev_some rfl)

/-! impl_within -/
theorem impl_within_eq (a b c : Int) : impl_within.f a b c = some (decide (b ≤ a ∧ a ≤ c)) := by
  unfold impl_within.f
  by_cases h : a ≥ b
  · rw [if_pos h]; congr 1; simp; omega
  · rw [if_neg h]; congr 1; simp; omega

/-! impl_isId -/
theorem impl_isId_eq (n : Int) : impl_isId.f n = some (decide (1 ≤ n ∧ n ≤ 1000000)) := by
  unfold impl_isId.f
  rw [impl_within_eq]; rfl

/-! impl_NotesOk -/
theorem impl_NotesOk_ev (l : List S67) (hl : l.length ≤ 140737488355328) : Ev (fun k => impl_NotesOk.f k l) (notesOk l) := by
  refine all_ev (F := fun k i => impl_NotesOk.l0 k l l (l.length : Int) i) (fun i hi hg r hr => ?_) (fun i hi hg => ?_) ?_
  · simp only [noteGood, decide_eq_true_eq] at hg
    obtain ⟨g0, g1, g2⟩ := hg
    refine Ev.step (fun _ => impl_NotesOk.l0.eq_2 ..) ?_
    refine ev_ifp (by omega) (ev_ifp (by omega) (ev_ifp (by omega) (ev_call (impl_isId_eq ..) (ev_ifp (by simpa using g0) (ev_call (impl_within_eq ..) (ev_ifp (by simpa using g1) ?_))))))
    simp only [wnext i (by omega)]
    refine ev_if (fun h0 => ?_) (fun h0 => hr)
    have h1 := g2 (by omega)
    rw [w64 (n := (i : Int) - 1) (by omega) (by omega)]
    exact ev_ifp (by omega) (ev_ifp (by omega) (ev_ifn (by omega) hr))
  · simp only [noteGood, decide_eq_false_iff_not] at hg
    refine Ev.step (fun _ => impl_NotesOk.l0.eq_2 ..) ?_
    refine ev_ifp (by omega) (ev_ifp (by omega) (ev_ifp (by omega) (ev_call (impl_isId_eq ..) (ev_if (fun g0 => ?_) (fun _ => ev_some rfl)))))
    refine ev_call (impl_within_eq ..) (ev_if (fun g1 => ?_) (fun _ => ev_some rfl))
    simp only [decide_eq_true_eq] at g0 g1
    refine ev_if (fun h0 => ?_) (fun h0 => absurd ⟨g0, g1, fun h => absurd h (by omega)⟩ hg)
    rw [w64 (n := (i : Int) - 1) (by omega) (by omega)]
    refine ev_ifp (by omega) (ev_ifp (by omega) (ev_ifp ?_ (ev_some rfl)))
    by_cases h2 : (rd_T67 l ((i : Int) - 1)).f0 < (rd_T67 l i).f0
    · exact absurd ⟨g0, g1, fun _ => h2⟩ hg
    · omega
  · refine Ev.step (fun _ => impl_NotesOk.l0.eq_2 ..) ?_
    exact ev_ifn (by omega) (ev_some rfl)

/-! laws_eqNoteS -/
theorem laws_eqNoteS_ev (x : List S67) (hx : x.length ≤ 10000000) : Ev (fun k => laws_eqNoteS.f k x x) true := by
  unfold laws_eqNoteS.f
  refine ev_ifp rfl ?_
  refine ev_to (all_ev (F := fun k i => laws_eqNoteS.l0 k x x i) (n := x.length) (good := fun _ => true) (fin := true) (fun i hi hg r hr => ?_) (fun i hi hg => by cases hg) ?_) (by simp)
  · refine Ev.step (fun _ => laws_eqNoteS.l0.eq_2 ..) ?_
    refine ev_ifp (by omega) (ev_ifp (by omega) (ev_ifp (by omega) (ev_call (a := true) (by simp [laws_eqNote.f]) (ev_ifp rfl ?_))))
    rw [wnext i (by omega)]
    exact hr
  · refine Ev.step (fun _ => laws_eqNoteS.l0.eq_2 ..) ?_
    exact ev_ifn (by omega) (ev_some rfl)

theorem FnExactNotesOk (l : List S69) (h : l.length ≤ maxLen ∧ ∀ x ∈ l, (Lit.int .i64 x.f0).wf = true ∧ (Lit.int .i64 x.f1).wf = true) : ∃ k, laws_FnExactNotesOk.f k l = some true := by
  obtain ⟨hs, hb⟩ := h
  unfold maxLen at hs
  refine Ev.rounds (r := true) ?_
  unfold laws_FnExactNotesOk.f laws_szNoteS.f
  rw [w64 (n := (1048576 : Int) - (l.length : Int)) (by omega) (by omega)]
  by_cases hn : (1048576 : Int) - (l.length : Int) < 0
  · rw [if_pos hn]
    exact ev_call rfl (ev_ifp (by decide) (ev_some rfl))
  · rw [if_neg hn]
    refine ev_call rfl (ev_ifn hn ?_)
    have t := laws_toNoteS_ev l (by omega)
    have hm : (l.map toNote).length ≤ 10000000 := by rw [List.length_map]; omega
    refine Ev.bind t (Ev.bind (spec_NotesOk_ev _ (by omega)) (Ev.bind t (Ev.bind (impl_NotesOk_ev _ (by omega)) (ev_ifn (by simp) (Ev.bind t (Ev.bind (laws_eqNoteS_ev _ hm) (ev_ifp rfl (ev_some rfl))))))))

end Go.Proofs.Ytcableidjknlfaa.Pure
